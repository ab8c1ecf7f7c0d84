/- Made from wip. -/
import Derived.Test.YtflonlkiajhhjaaGreatDoorTpFMod0x

set_option maxRecDepth 100000
set_option maxHeartbeats 20000000
set_option linter.unusedVariables false
namespace Go.TpFM
open Go.Sp Go.TpF
noncomputable section
def V6 (pu:Af) (n n0 c0:Nat) (q0:LV):OV:=
 (bb (Au Ah q0) (bb (an (Nat.ble (0+n0*1) (len q0)) (Au Ah (Aq (n0*1) (Am 0 q0)))) (some (Sl.v 1 (Sl.mk n0 0 (Aq (n0*1) (Am 0 q0))))) none) none)
def Ui (pu:Af) (n:Nat) (ih0:Int→Nat→Nat→Int→Int→LV→OV) (z0:Int) (n0 c0:Nat) (z1 z2:Int) (q0:LV):OV:=
 (bb (Au Ah q0) (ih0 z0 n0 c0 z1 (Aj .i64 (Int.add z2 (1:Int))) q0) none)
def Uj (pu:Af) (n:Nat) (ih0:Int→Nat→Nat→Int→Int→LV→OV) (z0:Int) (n0 c0:Nat) (z1 z2 z3:Int) (b0:Bool) (q0:LV):OV:=
 (bb b0 (bb (GV 1 8 n0 c0 1 q0) (bb (Au Ah (Br (Am 0 q0) [.int .i64 z1])) (Ui pu n ih0 z0 (n0+1) (2*(n0+1)+bb false 1 0) z2 z3 (Br (Am 0 q0) [.int .i64 z1])) none) none) (bb (Au Ah q0) (Ui pu n ih0 z0 n0 c0 z2 z3 q0) none))
def PM (pu:Af) (n:Nat) (ih0:Int→Nat→Nat→Int→Int→LV→OV) (z0:Int) (n0 c0:Nat) (z1 z2:Int) (q0:LV):OV:=
 (bb (Au Ah q0) (bb (AY z2 z1) (oo (EA z2) none fun k1=>(bb (Bd (Np .u32 (G6 .u32 z0 k1) (1:Int)) (1:Int)) (Uj pu n ih0 z0 n0 c0 (Int.ofNat k1) z1 (Int.ofNat k1) (AY (Int.ofNat n0) (6:Int)) q0) (Uj pu n ih0 z0 n0 c0 (Int.ofNat k1) z1 (Int.ofNat k1) false q0))) (V6 pu n n0 c0 q0)) none)
def JN (pu:Af) (n w:Nat):Int→Nat→Nat→Int→Int→LV→OV:=
 Nat.rec (motive:=fun _=>Int→Nat→Nat→Int→Int→LV→OV) (fun _ _ _ _ _ _=>none) (fun _ ih0=>PM pu n ih0) w
def AbB (pu:Af) (n:Nat) (x0 x1:Int):OV:=
 (JN pu n n x0 0 0 x1 (0:Int) ([]:LV))
def m16 (pu:Af) (n:Nat) (args:LV):OV:=
 (ll args none fun a0 args=>(ll args none fun a1 args=>(ll args (oo (Bi .u32 a0) none fun x0=>(oo (Bi .i64 a1) none fun x1=>(AbB pu n x0 x1))) fun _ _=>none)))
theorem AiL (pu:Af) (n n0 c0:Nat) (q0:LV) {v:Value} (hm:V6 pu n n0 c0 q0=some v):BN tt (Bb tabs isP pu (inl pu)) 2 XQ (fr 27 [(5,sc 2 0 1 n0 c0)]) (hT 3 [(.cells Ay true false []),oC q0]) (Fin tt 2 [.tmp 4] v):=by
 unfold V6 at hm
 refine .then (.rK ?_)
 replace hm:=Ae hm;obtain⟨h0,hm⟩:=hm
 refine .ghs (fr 27 [(4,sc 2 0 1 n0 c0)]) (hT 3 [(.cells Ay true false []),oC q0]) (.k [2] [false,false] [.tmp 4 false] [4] ⟨BB h0,trivial⟩) ?_
 replace hm:=Ae hm;obtain⟨h1,hm⟩:=hm
 refine .ghs (Fr.puts (fr 27 [(4,sc 2 0 1 n0 c0)]) [(4,(Sl.v 1 (Sl.mk n0 0 (Aq (n0*1) (Am 0 q0)))))]) (hT 3 [(.cells Ay true false []),.dead]) (.freezeC 2 4 1 (an (Nat.ble (0+n0*1) (len q0)) (Au Ah (Aq (n0*1) (Am 0 q0)))) (F1:=(Fr.puts (fr 27 [(4,sc 2 0 1 n0 c0)]) [(4,(Sl.v 1 (Sl.mk n0 0 (Aq (n0*1) (Am 0 q0)))))])) (H1:=(hT 3 [(.cells Ay true false []),.dead])) (by kernel_rfl) (by kernel_rfl) h1 (E9.id _ _)) ?_
 refine .ret ?_
 exact Bq (Sl.v 1 (Sl.mk n0 0 (Aq (n0*1) (Am 0 q0)))) hm
theorem r16 {call:A8} (pu:Af) (n:Nat) (hcall:call=Bb tabs isP pu (inl pu)) {args:LV} {v:Value} (hm:m16 pu n args=some v) (_:∀ x∈args,closed2 x=true):args.length≤27∧BN tt call 2 QJ (Fr.made 27 args) (Ao tabs) (Fin tt 2 [.tmp 4] v):=by
 subst hcall
 unfold m16 at hm
 replace hm:=Ad hm;obtain⟨a0,args_0,rfl,hm⟩:=hm
 replace hm:=Ad hm;obtain⟨a1,args_1,rfl,hm⟩:=hm
 replace hm:=AC hm;obtain⟨rfl,hm⟩:=hm
 replace hm:=Ai hm;obtain⟨x0,rfl,hm⟩:=hm
 replace hm:=Ai hm;obtain⟨x1,rfl,hm⟩:=hm
 unfold AbB at hm
 refine⟨by simp,?_⟩
 refine .same (F':=(fr 27 [(0,.int .u32 x0),(1,zI x1)])) (H':=(hT 2 [(.cells Ay true false [])])) (by kernel_rfl) (by kernel_rfl) ?_
 refine .then (.rK (.ghs (fr 27 [(0,.int .u32 x0),(1,zI x1)]) (hT 2 [(.cells Ay true false [])]) (.k0 [false,false] [] [0,1]) ?_))
 refine .then (.rK (.ghs (fr 27 [(0,.int .u32 x0),(1,zI x1),(5,(.slice none 0 0))]) (hT 2 [(.cells Ay true false [])]) (.k0 [false,false] [] [0,1,5]) ?_))
 refine .join (v:=v) (fun y:Nat×Nat×LV=>((fr 27 [(5,(sc 2 0 1 y.1 y.2.1))]),(hT 3 [(.cells Ay true false []),(oC y.2.2)]))) (fun y=>V6 pu n y.1 y.2.1 y.2.2) ?_ ?_
 ·rintro⟨n0,c0,q0⟩ hm
  exact AiL pu n n0 c0 q0 hm
 ·refine .then (.rK (.ghs (fr 27 [(0,.int .u32 x0),(5,(.slice none 0 0)),(7,zI x1),(8,(zI (0:Int)))]) (hT 2 [(.cells Ay true false [])]) (.k0 [false,false] [] [0,5,7,8]) ?_))
  refine .block (.loopM (v:=v) (fun y:Int×Nat×Nat×Int×Int×LV=>((fr 27 [(0,(.int .u32 y.1)),(5,(sc 2 0 1 y.2.1 y.2.2.1)),(7,(zI y.2.2.2.1)),(8,(zI y.2.2.2.2.1))]),(hT 3 [(.cells Ay true false []),(oC y.2.2.2.2.2)]))) (fun w y=>JN pu n w y.1 y.2.1 y.2.2.1 y.2.2.2.1 y.2.2.2.2.1 y.2.2.2.2.2) n ⟨(x0,0,0,x1,(0:Int),([]:LV)),hm,(.thaw 5 1 (by kernel_rfl) (.k0 [false,false] [.tmp 5 false] [0,5,7,8]))⟩ (fun _=>rfl) ?_)
  rintro w0 ⟨z0,n1,c1,z1,z2,q1⟩ hm
  replace hm:PM pu n (JN pu n w0) z0 n1 c1 z1 z2 q1=some v:=hm
  unfold PM at hm
  refine .then (.rK ?_)
  replace hm:=Ae hm;obtain⟨h0,hm⟩:=hm
  refine .ghs (fr 27 [(0,.int .u32 z0),(5,sc 2 0 1 n1 c1),(7,zI z1),(8,zI z2),(9,(zB (AY z2 z1)))]) (hT 3 [(.cells Ay true false []),oC q1]) (.k [2] [false,false] [.tmp 5 false] [0,5,7,8,9] ⟨BB h0,trivial⟩) ?_
  refine .then ?_
  replace hm:=Ag hm;rcases hm with⟨h1,hm⟩ | ⟨h1,hm⟩
  ·refine C8 (AY z2 z1) h1 ?_
   refine .skip (.ghs (fr 27 [(0,.int .u32 z0),(5,sc 2 0 1 n1 c1),(7,zI z1),(8,zI z2)]) (hT 3 [(.cells Ay true false []),oC q1]) (.k [2] [false,false] [.tmp 5 false] [0,5,7,8] ⟨BB h0,trivial⟩) ?_)
   refine .join (v:=v) (fun y:Int×Nat×Nat×Int×Int×LV=>((fr 27 [(0,(.int .u32 y.1)),(5,(sc 2 0 1 y.2.1 y.2.2.1)),(7,(zI y.2.2.2.1)),(8,(zI y.2.2.2.2.1))]),(hT 3 [(.cells Ay true false []),(oC y.2.2.2.2.2)]))) (fun y=>Ui pu n (JN pu n w0) y.1 y.2.1 y.2.2.1 y.2.2.2.1 y.2.2.2.2.1 y.2.2.2.2.2) ?_ ?_
   ·rintro⟨z3,n2,c2,z4,z5,q2⟩ hm
    unfold Ui at hm
    refine .rK ?_
    replace hm:=Ae hm;obtain⟨h2,hm⟩:=hm
    exact⟨(z3,n2,c2,z4,(Aj .i64 (Int.add z5 (1:Int))),q2),hm,(.k [2] [false,false] [.tmp 5 false] [0,5,7,8] ⟨BB h2,trivial⟩)⟩
   ·refine .block (.then (.rK (.ghs (fr 27 [(0,.int .u32 z0),(5,sc 2 0 1 n1 c1),(6,zI z2),(7,zI z1),(8,zI z2)]) (hT 3 [(.cells Ay true false []),oC q1]) (.k [2] [false,false] [.tmp 5 false] [0,5,6,7,8] ⟨BB h0,trivial⟩) ?_)))
    refine .join (v:=v) (fun y:Int×Nat×Nat×Int×Int×Int×Bool×LV=>((fr 27 [(0,(.int .u32 y.1)),(5,(sc 2 0 1 y.2.1 y.2.2.1)),(6,(zI y.2.2.2.1)),(7,(zI y.2.2.2.2.1)),(8,(zI y.2.2.2.2.2.1)),(20,(zB y.2.2.2.2.2.2.1))]),(hT 3 [(.cells Ay true false []),(oC y.2.2.2.2.2.2.2)]))) (fun y=>Uj pu n (JN pu n w0) y.1 y.2.1 y.2.2.1 y.2.2.2.1 y.2.2.2.2.1 y.2.2.2.2.2.1 y.2.2.2.2.2.2.1 y.2.2.2.2.2.2.2) ?_ ?_
    ·rintro⟨z6,n3,c3,z7,z8,z9,b0,q3⟩ hm
     unfold Uj at hm
     replace hm:=Ag hm;rcases hm with⟨h3,hm⟩ | ⟨h3,hm⟩
     ·refine .ifT b0 (by kernel_rfl) h3 ?_
      replace hm:=Ae hm;obtain⟨h4,hm⟩:=hm
      refine .reg (eC 3 (Oc 1 8 n3 c3 1 2 q3 [zI z7] [] (hT 4 [(.cells Ay true false []),oC q3,(oC [zI z7])])) (I1 h4) (eE)) ?_
      replace hm:=Ae hm;obtain⟨h5,hm⟩:=hm
      exact⟨(z6,(n3+1),(d2 (n3+1)),z8,z9,(Br (Am 0 q3) [zI z7])),hm,(.k [4] [false,false] [.tmp 5 false] [0,5,7,8] ⟨BB h5,trivial⟩)⟩
     ·refine .ifF b0 (by kernel_rfl) h3 ?_
      refine .skip ?_
      replace hm:=Ae hm;obtain⟨h6,hm⟩:=hm
      exact⟨(z6,n3,c3,z8,z9,q3),hm,(.k [2] [false,false] [.tmp 5 false] [0,5,7,8] ⟨BB h6,trivial⟩)⟩
    ·replace hm:=Ab hm;obtain⟨k1,h7,hm⟩:=hm
     obtain rfl:=AR h7
     replace hm:=Ag hm;rcases hm with⟨h8,hm⟩ | ⟨h8,hm⟩
     ·refine .reg (eC 4 (some ((zB (Bd (Np .u32 (G6 .u32 z0 k1) (1:Int)) (1:Int))),(hT 3 [(.cells Ay true false []),oC q1]))) (show _=some ((zB true),_) from (by rw[show (Bd (Np .u32 (G6 .u32 z0 k1) (1:Int)) (1:Int))=true from h8])) (eE)) ?_
      exact⟨(z0,n1,c1,(Int.ofNat k1),z1,(Int.ofNat k1),(AY (Int.ofNat n1) (6:Int)),q1),hm,(.k [2] [false,false] [.tmp 5 false] [0,5,6,7,8,20] ⟨BB h0,trivial⟩)⟩
     ·refine .reg (eC 4 (some ((zB (Bd (Np .u32 (G6 .u32 z0 k1) (1:Int)) (1:Int))),(hT 3 [(.cells Ay true false []),oC q1]))) (show _=some ((zB false),_) from (by rw[show (Bd (Np .u32 (G6 .u32 z0 k1) (1:Int)) (1:Int))=false from h8])) (eE)) ?_
      exact⟨(z0,n1,c1,(Int.ofNat k1),z1,(Int.ofNat k1),false,q1),hm,(.k [2] [false,false] [.tmp 5 false] [0,5,6,7,8,20] ⟨BB h0,trivial⟩)⟩
  ·refine Dn (AY z2 z1) h1 ?_
   refine .exit ?_
   exact⟨(n1,c1,q1),hm,(.k [2] [false,false] [.tmp 5 false] [5] ⟨BB h0,trivial⟩)⟩
def V8 (pu:Af) (n:Nat):OV:=
 (some (.bool false))
def Yp (pu:Af) (n:Nat) (ih0:Int→Sl→Int→Int→OV) (z0:Int) (s0:Sl) (z1 z2:Int):OV:=
 (bb (AY z2 z1) (oo (EA z2) none fun k1=>(bb (an (Nat.blt k1 (Sl.n s0)) true) (oo (AL (Sl.cs s0) (k1*1)) none fun v0=>(oo (Bi .i64 v0) none fun x0=>(bb (Bd x0 z0) (some (.bool true)) (ih0 z0 s0 z1 (Aj .i64 (Int.add (Int.ofNat k1) (1:Int))))))) none)) (V8 pu n))
def Yq (pu:Af) (n w:Nat):Int→Sl→Int→Int→OV:=
 Nat.rec (motive:=fun _=>Int→Sl→Int→Int→OV) (fun _ _ _ _=>none) (fun _ ih0=>Yp pu n ih0) w
def AiM (pu:Af) (n:Nat) (s0:Sl) (x0:Int):OV:=
 (Yq pu n n x0 s0 (Int.ofNat (Sl.n s0)) (0:Int))
def m18 (pu:Af) (n:Nat) (args:LV):OV:=
 (ll args none fun a0 args=>(ll args none fun a1 args=>(ll args (oo (Bj 1 a0) none fun s0=>(oo (Bi .i64 a1) none fun x0=>(AiM pu n s0 x0))) fun _ _=>none)))
theorem AiN (pu:Af) (n:Nat) {v:Value} (hm:V8 pu n=some v):BN tt (Bb tabs isP pu (inl pu)) 2 XR (fr 17 []) (hT 2 [(.cells Ay true false [])]) (Fin tt 2 [.tmp 4] v):=by
 unfold V8 at hm
 refine .then (.rK (.ghs (fr 17 [(4,zB false)]) (hT 2 [(.cells Ay true false [])]) (.k0 [false,false] [] [4]) ?_))
 refine .ret ?_
 exact Bq (zB false) hm
theorem r18 {call:A8} (pu:Af) (n:Nat) (hcall:call=Bb tabs isP pu (inl pu)) {args:LV} {v:Value} (hm:m18 pu n args=some v) (_:∀ x∈args,closed2 x=true):args.length≤17∧BN tt call 2 QK (Fr.made 17 args) (Ao tabs) (Fin tt 2 [.tmp 4] v):=by
 subst hcall
 unfold m18 at hm
 replace hm:=Ad hm;obtain⟨a0,args_0,rfl,hm⟩:=hm
 replace hm:=Ad hm;obtain⟨a1,args_1,rfl,hm⟩:=hm
 replace hm:=AC hm;obtain⟨rfl,hm⟩:=hm
 replace hm:=Al hm;obtain⟨s0,rfl,hm⟩:=hm
 replace hm:=Ai hm;obtain⟨x0,rfl,hm⟩:=hm
 unfold AiM at hm
 refine⟨by simp,?_⟩
 refine .same (F':=(fr 17 [(0,Sl.v 1 s0),(1,zI x0)])) (H':=(hT 2 [(.cells Ay true false [])])) (by kernel_rfl) (by kernel_rfl) ?_
 refine .then (.rK (.ghs (fr 17 [(0,Sl.v 1 s0),(1,zI x0)]) (hT 2 [(.cells Ay true false [])]) (.k0 [false,false] [] [0,1]) ?_))
 refine .join (v:=v) (fun y:Unit=>((fr 17 []),(hT 2 [(.cells Ay true false [])]))) (fun y=>V8 pu n) ?_ ?_
 ·rintro _ hm
  exact AiN pu n hm
 ·refine .then (.rK (.ghs (fr 17 [(1,zI x0),(7,Sl.v 1 s0),(8,(zI (Int.ofNat (Sl.n s0)))),(9,(zI (0:Int)))]) (hT 2 [(.cells Ay true false [])]) (.k0 [false,false] [] [1,7,8,9]) ?_))
  refine .block (.loopM (v:=v) (fun y:Int×Sl×Int×Int=>((fr 17 [(1,(zI y.1)),(7,(Sl.v 1 y.2.1)),(8,(zI y.2.2.1)),(9,(zI y.2.2.2))]),(hT 2 [(.cells Ay true false [])]))) (fun w y=>Yq pu n w y.1 y.2.1 y.2.2.1 y.2.2.2) n ⟨(x0,s0,(Int.ofNat (Sl.n s0)),(0:Int)),hm,(.k0 [false,false] [] [1,7,8,9])⟩ (fun _=>rfl) ?_)
  rintro w0 ⟨z0,s1,z1,z2⟩ hm
  replace hm:Yp pu n (Yq pu n w0) z0 s1 z1 z2=some v:=hm
  unfold Yp at hm
  refine .then (.rK (.ghs (fr 17 [(1,zI z0),(7,Sl.v 1 s1),(8,zI z1),(9,zI z2),(10,(zB (AY z2 z1)))]) (hT 2 [(.cells Ay true false [])]) (.k0 [false,false] [] [1,7,8,9,10]) ?_))
  refine .then ?_
  replace hm:=Ag hm;rcases hm with⟨h0,hm⟩ | ⟨h0,hm⟩
  ·refine C8 (AY z2 z1) h0 ?_
   refine .skip (.ghs (fr 17 [(1,zI z0),(7,Sl.v 1 s1),(8,zI z1),(9,zI z2)]) (hT 2 [(.cells Ay true false [])]) (.k0 [false,false] [] [1,7,8,9]) ?_)
   refine .then (.block (.then ?_))
   replace hm:=Ab hm;obtain⟨k1,h1,hm⟩:=hm
   obtain rfl:=AR h1
   replace hm:=Ae hm;obtain⟨h2,hm⟩:=hm
   replace hm:=K6 hm;obtain⟨x1,h3,hm⟩:=hm
   refine .reg (eD (keep (hT 2 [(.cells Ay true false [])]) (bb (an (Nat.blt k1 (Sl.n s1)) true) (some (Cv (k1*1) (Sl.cs s1))) none)) (AX h2) (eD (keep (hT 2 [(.cells Ay true false [])]) (AL (Sl.cs s1) (k1*1))) (AZ h3) (eE))) ?_
   refine .ghs (fr 17 [(1,zI z0),(6,zI x1),(7,Sl.v 1 s1),(8,zI z1),(9,(zI (Int.ofNat k1)))]) (hT 2 [(.cells Ay true false [])]) (.k0 [false,false] [] [1,6,7,8,9]) ?_
   refine .then (.rK (.ghs (fr 17 [(1,zI z0),(7,Sl.v 1 s1),(8,zI z1),(9,(zI (Int.ofNat k1))),(15,(zB (Bd x1 z0)))]) (hT 2 [(.cells Ay true false [])]) (.k0 [false,false] [] [1,7,8,9,15]) ?_))
   replace hm:=Ag hm;rcases hm with⟨h4,hm⟩ | ⟨h4,hm⟩
   ·refine C8 (Bd x1 z0) h4 ?_
    refine .then (.rK (.ghs (fr 17 [(4,zB true)]) (hT 2 [(.cells Ay true false [])]) (.k0 [false,false] [] [4]) ?_))
    refine .ret ?_
    exact Bq (zB true) hm
   ·refine Dn (Bd x1 z0) h4 ?_
    refine .skip (.ghs (fr 17 [(1,zI z0),(7,Sl.v 1 s1),(8,zI z1),(9,(zI (Int.ofNat k1)))]) (hT 2 [(.cells Ay true false [])]) (.k0 [false,false] [] [1,7,8,9]) ?_)
    refine .rK ?_
    exact⟨(z0,s1,z1,(Aj .i64 (Int.add (Int.ofNat k1) (1:Int)))),hm,(.k0 [false,false] [] [1,7,8,9])⟩
  ·refine Dn (AY z2 z1) h0 ?_
   refine .exit ?_
   exact⟨(),hm,(.k0 [false,false] [] [])⟩
def V9 (pu:Af) (n n0 c0:Nat) (q0:LV):OV:=
 (bb (Au Ah q0) (bb (an (Nat.ble (0+n0*1) (len q0)) (Au Ah (Aq (n0*1) (Am 0 q0)))) (some (Sl.v 1 (Sl.mk n0 0 (Aq (n0*1) (Am 0 q0))))) none) none)
def Yr (pu:Af) (n:Nat) (ih0:Nat→Nat→Int→Int→LV→OV) (n0 c0:Nat) (z0 z1:Int) (q0:LV):OV:=
 (bb (Au Ah q0) (bb (AY z1 z0) (bb (GV 1 8 n0 c0 1 q0) (bb (Au Ah (Br (Am 0 q0) [.int .i64 z1])) (ih0 (n0+1) (2*(n0+1)+bb false 1 0) z0 (Aj .i64 (Int.add z1 (1:Int))) (Br (Am 0 q0) [.int .i64 z1])) none) none) (V9 pu n n0 c0 q0)) none)
def Yt (pu:Af) (n w:Nat):Nat→Nat→Int→Int→LV→OV:=
 Nat.rec (motive:=fun _=>Nat→Nat→Int→Int→LV→OV) (fun _ _ _ _ _=>none) (fun _ ih0=>Yr pu n ih0) w
def AiO (pu:Af) (n:Nat) (x0:Int):OV:=
 (Yt pu n n 0 0 x0 (0:Int) ([]:LV))
def m40 (pu:Af) (n:Nat) (args:LV):OV:=
 (ll args none fun a0 args=>(ll args (oo (Bi .i64 a0) none fun x0=>(AiO pu n x0)) fun _ _=>none))
theorem AiP (pu:Af) (n n0 c0:Nat) (q0:LV) {v:Value} (hm:V9 pu n n0 c0 q0=some v):BN tt (Bb tabs isP pu (inl pu)) 2 XT (fr 15 [(3,sc 2 0 1 n0 c0)]) (hT 3 [(.cells Ay true false []),oC q0]) (Fin tt 2 [.tmp 2] v):=by
 unfold V9 at hm
 refine .then (.rK ?_)
 replace hm:=Ae hm;obtain⟨h0,hm⟩:=hm
 refine .ghs (fr 15 [(2,sc 2 0 1 n0 c0)]) (hT 3 [(.cells Ay true false []),oC q0]) (.k [2] [false,false] [.tmp 2 false] [2] ⟨BB h0,trivial⟩) ?_
 replace hm:=Ae hm;obtain⟨h1,hm⟩:=hm
 refine .ghs (Fr.puts (fr 15 [(2,sc 2 0 1 n0 c0)]) [(2,(Sl.v 1 (Sl.mk n0 0 (Aq (n0*1) (Am 0 q0)))))]) (hT 3 [(.cells Ay true false []),.dead]) (.freezeC 2 2 1 (an (Nat.ble (0+n0*1) (len q0)) (Au Ah (Aq (n0*1) (Am 0 q0)))) (F1:=(Fr.puts (fr 15 [(2,sc 2 0 1 n0 c0)]) [(2,(Sl.v 1 (Sl.mk n0 0 (Aq (n0*1) (Am 0 q0)))))])) (H1:=(hT 3 [(.cells Ay true false []),.dead])) (by kernel_rfl) (by kernel_rfl) h1 (E9.id _ _)) ?_
 refine .ret ?_
 exact Bq (Sl.v 1 (Sl.mk n0 0 (Aq (n0*1) (Am 0 q0)))) hm
theorem r40 {call:A8} (pu:Af) (n:Nat) (hcall:call=Bb tabs isP pu (inl pu)) {args:LV} {v:Value} (hm:m40 pu n args=some v) (_:∀ x∈args,closed2 x=true):args.length≤15∧BN tt call 2 QL (Fr.made 15 args) (Ao tabs) (Fin tt 2 [.tmp 2] v):=by
 subst hcall
 unfold m40 at hm
 replace hm:=Ad hm;obtain⟨a0,args_0,rfl,hm⟩:=hm
 replace hm:=AC hm;obtain⟨rfl,hm⟩:=hm
 replace hm:=Ai hm;obtain⟨x0,rfl,hm⟩:=hm
 unfold AiO at hm
 refine⟨by simp,?_⟩
 refine .same (F':=(fr 15 [(0,zI x0)])) (H':=(hT 2 [(.cells Ay true false [])])) (by kernel_rfl) (by kernel_rfl) ?_
 refine .then (.rK (.ghs (fr 15 [(0,zI x0)]) (hT 2 [(.cells Ay true false [])]) (.k0 [false,false] [] [0]) ?_))
 refine .then (.rK (.ghs (fr 15 [(0,zI x0),(3,(.slice none 0 0))]) (hT 2 [(.cells Ay true false [])]) (.k0 [false,false] [] [0,3]) ?_))
 refine .join (v:=v) (fun y:Nat×Nat×LV=>((fr 15 [(3,(sc 2 0 1 y.1 y.2.1))]),(hT 3 [(.cells Ay true false []),(oC y.2.2)]))) (fun y=>V9 pu n y.1 y.2.1 y.2.2) ?_ ?_
 ·rintro⟨n0,c0,q0⟩ hm
  exact AiP pu n n0 c0 q0 hm
 ·refine .then (.rK (.ghs (fr 15 [(3,(.slice none 0 0)),(5,zI x0),(6,(zI (0:Int)))]) (hT 2 [(.cells Ay true false [])]) (.k0 [false,false] [] [3,5,6]) ?_))
  refine .block (.loopM (v:=v) (fun y:Nat×Nat×Int×Int×LV=>((fr 15 [(3,(sc 2 0 1 y.1 y.2.1)),(5,(zI y.2.2.1)),(6,(zI y.2.2.2.1))]),(hT 3 [(.cells Ay true false []),(oC y.2.2.2.2)]))) (fun w y=>Yt pu n w y.1 y.2.1 y.2.2.1 y.2.2.2.1 y.2.2.2.2) n ⟨(0,0,x0,(0:Int),([]:LV)),hm,(.thaw 3 1 (by kernel_rfl) (.k0 [false,false] [.tmp 3 false] [3,5,6]))⟩ (fun _=>rfl) ?_)
  rintro w0 ⟨n1,c1,z0,z1,q1⟩ hm
  replace hm:Yr pu n (Yt pu n w0) n1 c1 z0 z1 q1=some v:=hm
  unfold Yr at hm
  refine .then (.rK ?_)
  replace hm:=Ae hm;obtain⟨h0,hm⟩:=hm
  refine .ghs (fr 15 [(3,sc 2 0 1 n1 c1),(5,zI z0),(6,zI z1),(7,(zB (AY z1 z0)))]) (hT 3 [(.cells Ay true false []),oC q1]) (.k [2] [false,false] [.tmp 3 false] [3,5,6,7] ⟨BB h0,trivial⟩) ?_
  refine .then ?_
  replace hm:=Ag hm;rcases hm with⟨h1,hm⟩ | ⟨h1,hm⟩
  ·refine C8 (AY z1 z0) h1 ?_
   refine .skip (.ghs (fr 15 [(3,sc 2 0 1 n1 c1),(5,zI z0),(6,zI z1)]) (hT 3 [(.cells Ay true false []),oC q1]) (.k [2] [false,false] [.tmp 3 false] [3,5,6] ⟨BB h0,trivial⟩) ?_)
   refine .then (.block (.then (.rK (.ghs (fr 15 [(3,sc 2 0 1 n1 c1),(4,zI z1),(5,zI z0),(6,zI z1)]) (hT 3 [(.cells Ay true false []),oC q1]) (.k [2] [false,false] [.tmp 3 false] [3,4,5,6] ⟨BB h0,trivial⟩) ?_))))
   replace hm:=Ae hm;obtain⟨h2,hm⟩:=hm
   refine .reg (eC 3 (Oc 1 8 n1 c1 1 2 q1 [zI z1] [] (hT 4 [(.cells Ay true false []),oC q1,(oC [zI z1])])) (I1 h2) (eE)) ?_
   replace hm:=Ae hm;obtain⟨h3,hm⟩:=hm
   refine .ghs (fr 15 [(3,(sc 2 0 1 (n1+1) (d2 (n1+1)))),(5,zI z0),(6,zI z1)]) (hT 3 [(.cells Ay true false []),(oC (Br (Am 0 q1) [zI z1]))]) (.k [4] [false,false] [.tmp 3 false] [3,5,6] ⟨BB h3,trivial⟩) ?_
   refine .rK ?_
   exact⟨((n1+1),(d2 (n1+1)),z0,(Aj .i64 (Int.add z1 (1:Int))),(Br (Am 0 q1) [zI z1])),hm,(.k [2] [false,false] [.tmp 3 false] [3,5,6] ⟨BB h3,trivial⟩)⟩
  ·refine Dn (AY z1 z0) h1 ?_
   refine .exit ?_
   exact⟨(n1,c1,q1),hm,(.k [2] [false,false] [.tmp 3 false] [3] ⟨BB h0,trivial⟩)⟩
def Wl (pu:Af) (n:Nat) (z0:Int):OV:=
 (some (.tuple ⟨[.int .i64 z0,(.int .i64 (0:Int))]⟩))
def Yu (pu:Af) (n:Nat) (ih0:Int→Int→Int→OV) (z0 z1 z2:Int):OV:=
 (bb (nt (Bd z0 (0:Int))) (bb (nt (Bd z2 (Int.tmod (1:Int) z0))) (bb (nt (Bd z0 (0:Int))) (ih0 z0 (Aj .i64 (Int.add z1 (1:Int))) (Int.tmod (Aj .i64 (Int.mul (2:Int) z2)) z0)) none) (Wl pu n z1)) none)
def Yv (pu:Af) (n w:Nat):Int→Int→Int→OV:=
 Nat.rec (motive:=fun _=>Int→Int→Int→OV) (fun _ _ _=>none) (fun _ ih0=>Yu pu n ih0) w
def AiQ (pu:Af) (n:Nat) (x0 x1:Int):OV:=
 (oo (pu 99 [.int .i64 x0]) none fun v0=>(oo (Bi .i64 v0) none fun x2=>(bb (nt (Bd x2 (0:Int))) (some (.tuple ⟨[(.int .i64 (0:Int)),.int .i64 x2]⟩)) (oo (pu 100 [(.int .i64 (0:Int)),.int .i64 x1,(.int .i64 (1:Int))]) none fun v1=>(oo (Bf v1) none fun b0=>(bb (nt b0) (some (.tuple ⟨[(.int .i64 (0:Int)),(.int .i64 (8:Int))]⟩)) (bb (nt (Bd (Aj .i64 (Int.add (Aj .i64 (Int.sub x0 (1:Int))) (Aj .i64 (Int.mul (2:Int) x1)))) (0:Int))) (Yv pu n n (Aj .i64 (Int.add (Aj .i64 (Int.sub x0 (1:Int))) (Aj .i64 (Int.mul (2:Int) x1)))) (1:Int) (Int.tmod (2:Int) (Aj .i64 (Int.add (Aj .i64 (Int.sub x0 (1:Int))) (Aj .i64 (Int.mul (2:Int) x1)))))) none)))))))
def m41 (pu:Af) (n:Nat) (args:LV):OV:=
 (ll args none fun a0 args=>(ll args none fun a1 args=>(ll args (oo (Bi .i64 a0) none fun x0=>(oo (Bi .i64 a1) none fun x1=>(AiQ pu n x0 x1))) fun _ _=>none)))
theorem AiR (pu:Af) (n:Nat) (z0:Int) {v:Value} (hm:Wl pu n z0=some v):BN tt (Bb tabs isP pu (inl pu)) 2 XU (fr 38 [(8,zI z0)]) (hT 2 [(.cells Ay true false [])]) (Fin tt 2 [.tmp 4,.tmp 5] v):=by
 unfold Wl at hm
 refine .then (.rK (.ghs (fr 38 [(4,zI z0),(5,(zI (0:Int)))]) (hT 2 [(.cells Ay true false [])]) (.k0 [false,false] [] [4,5]) ?_))
 refine .ret ?_
 exact Bq (.tuple ⟨[zI z0,(zI (0:Int))]⟩) hm
theorem r41 {call:A8} (pu:Af) (n:Nat) (hcall:call=Bb tabs isP pu (inl pu)) {args:LV} {v:Value} (hm:m41 pu n args=some v) (_:∀ x∈args,closed2 x=true):args.length≤38∧BN tt call 2 QM (Fr.made 38 args) (Ao tabs) (Fin tt 2 [.tmp 4,.tmp 5] v):=by
 subst hcall
 unfold m41 at hm
 replace hm:=Ad hm;obtain⟨a0,args_0,rfl,hm⟩:=hm
 replace hm:=Ad hm;obtain⟨a1,args_1,rfl,hm⟩:=hm
 replace hm:=AC hm;obtain⟨rfl,hm⟩:=hm
 replace hm:=Ai hm;obtain⟨x0,rfl,hm⟩:=hm
 replace hm:=Ai hm;obtain⟨x1,rfl,hm⟩:=hm
 unfold AiQ at hm
 refine⟨by simp,?_⟩
 refine .same (F':=(fr 38 [(0,zI x0),(1,zI x1)])) (H':=(hT 2 [(.cells Ay true false [])])) (by kernel_rfl) (by kernel_rfl) ?_
 refine .then (.rK (.ghs (fr 38 [(0,zI x0),(1,zI x1)]) (hT 2 [(.cells Ay true false [])]) (.k0 [false,false] [] [0,1]) ?_))
 refine .then ?_
 replace hm:=K6 hm;obtain⟨x2,h0,hm⟩:=hm
 refine .reg (eC 1 ((oo (pu 99 [zI x0]) none fun v=>some (v,(hT 2 [(.cells Ay true false [])])))) (AB h0) (eE)) ?_
 refine .ghs (fr 38 [(0,zI x0),(1,zI x1),(6,zI x2)]) (hT 2 [(.cells Ay true false [])]) (.k0 [false,false] [] [0,1,6]) ?_
 refine .then (.block (.then (.rK (.ghs (fr 38 [(0,zI x0),(1,zI x1),(6,zI x2),(12,(zB (nt (Bd x2 (0:Int)))))]) (hT 2 [(.cells Ay true false [])]) (.k0 [false,false] [] [0,1,6,12]) ?_))))
 replace hm:=Ag hm;rcases hm with⟨h1,hm⟩ | ⟨h1,hm⟩
 ·refine C8 (nt (Bd x2 (0:Int))) h1 ?_
  refine .then (.rK (.ghs (fr 38 [(4,(zI (0:Int))),(5,zI x2)]) (hT 2 [(.cells Ay true false [])]) (.k0 [false,false] [] [4,5]) ?_))
  refine .ret ?_
  exact Bq (.tuple ⟨[(zI (0:Int)),zI x2]⟩) hm
 ·refine Dn (nt (Bd x2 (0:Int))) h1 ?_
  refine .then ?_
  replace hm:=Yn hm;obtain⟨b0,h2,hm⟩:=hm
  refine .reg (eC 1 ((oo (pu 100 [(zI (0:Int)),zI x1,(zI (1:Int))]) none fun v=>some (v,(hT 2 [(.cells Ay true false [])])))) (AB h2) (eE)) ?_
  refine .ghs (fr 38 [(0,zI x0),(1,zI x1),(16,(zB (nt b0)))]) (hT 2 [(.cells Ay true false [])]) (.k0 [false,false] [] [0,1,16]) ?_
  replace hm:=Ag hm;rcases hm with⟨h3,hm⟩ | ⟨h3,hm⟩
  ·refine C8 (nt b0) h3 ?_
   refine .then (.rK (.ghs (fr 38 [(4,(zI (0:Int))),(5,(zI (8:Int)))]) (hT 2 [(.cells Ay true false [])]) (.k0 [false,false] [] [4,5]) ?_))
   refine .ret ?_
   exact Bq (.tuple ⟨[(zI (0:Int)),(zI (8:Int))]⟩) hm
  ·refine Dn (nt b0) h3 ?_
   refine .skip (.ghs (fr 38 [(0,zI x0),(1,zI x1)]) (hT 2 [(.cells Ay true false [])]) (.k0 [false,false] [] [0,1]) ?_)
   refine .then (.rK (.ghs (fr 38 [(7,(zI (Aj .i64 (Int.add (Aj .i64 (Int.sub x0 (1:Int))) (Aj .i64 (Int.mul (2:Int) x1))))))]) (hT 2 [(.cells Ay true false [])]) (.k0 [false,false] [] [7]) ?_))
   refine .then (.rK (.ghs (fr 38 [(7,(zI (Aj .i64 (Int.add (Aj .i64 (Int.sub x0 (1:Int))) (Aj .i64 (Int.mul (2:Int) x1)))))),(8,(zI (1:Int)))]) (hT 2 [(.cells Ay true false [])]) (.k0 [false,false] [] [7,8]) ?_))
   refine .join (v:=v) (fun y:Int=>((fr 38 [(8,zI y)]),(hT 2 [(.cells Ay true false [])]))) (fun y=>Wl pu n y) ?_ ?_
   ·rintro z0 hm
    exact AiR pu n z0 hm
   ·refine .then ?_
    replace hm:=Ae hm;obtain⟨h4,hm⟩:=hm
    refine .reg (eC 1 (keep (hT 2 [(.cells Ay true false [])]) (bb (Bd (Aj .i64 (Int.add (Aj .i64 (Int.sub x0 (1:Int))) (Aj .i64 (Int.mul (2:Int) x1)))) (0:Int)) none (some (zI (Int.tmod (2:Int) (Aj .i64 (Int.add (Aj .i64 (Int.sub x0 (1:Int))) (Aj .i64 (Int.mul (2:Int) x1))))))))) (XH h4) (eE)) ?_
    refine .ghs (fr 38 [(7,(zI (Aj .i64 (Int.add (Aj .i64 (Int.sub x0 (1:Int))) (Aj .i64 (Int.mul (2:Int) x1)))))),(8,(zI (1:Int))),(9,(zI (Int.tmod (2:Int) (Aj .i64 (Int.add (Aj .i64 (Int.sub x0 (1:Int))) (Aj .i64 (Int.mul (2:Int) x1)))))))]) (hT 2 [(.cells Ay true false [])]) (.k0 [false,false] [] [7,8,9]) ?_
    refine .block (.loopM (v:=v) (fun y:Int×Int×Int=>((fr 38 [(7,(zI y.1)),(8,(zI y.2.1)),(9,(zI y.2.2))]),(hT 2 [(.cells Ay true false [])]))) (fun w y=>Yv pu n w y.1 y.2.1 y.2.2) n ⟨((Aj .i64 (Int.add (Aj .i64 (Int.sub x0 (1:Int))) (Aj .i64 (Int.mul (2:Int) x1)))),(1:Int),(Int.tmod (2:Int) (Aj .i64 (Int.add (Aj .i64 (Int.sub x0 (1:Int))) (Aj .i64 (Int.mul (2:Int) x1)))))),hm,(.k0 [false,false] [] [7,8,9])⟩ (fun _=>rfl) ?_)
    rintro w0 ⟨z1,z2,z3⟩ hm
    replace hm:Yu pu n (Yv pu n w0) z1 z2 z3=some v:=hm
    unfold Yu at hm
    refine .then (.then ?_)
    replace hm:=Ae hm;obtain⟨h5,hm⟩:=hm
    refine .reg (eC 2 (keep (hT 2 [(.cells Ay true false [])]) (bb (Bd z1 (0:Int)) none (some (zI (Int.tmod (1:Int) z1))))) (XH h5) (eE)) ?_
    refine .ghs (fr 38 [(7,zI z1),(8,zI z2),(9,zI z3),(30,(zB (nt (Bd z3 (Int.tmod (1:Int) z1)))))]) (hT 2 [(.cells Ay true false [])]) (.k0 [false,false] [] [7,8,9,30]) ?_
    replace hm:=Ag hm;rcases hm with⟨h6,hm⟩ | ⟨h6,hm⟩
    ·refine C8 (nt (Bd z3 (Int.tmod (1:Int) z1))) h6 ?_
     refine .skip (.ghs (fr 38 [(7,zI z1),(8,zI z2),(9,zI z3)]) (hT 2 [(.cells Ay true false [])]) (.k0 [false,false] [] [7,8,9]) ?_)
     refine .then (.block (.rK (.ghs (fr 38 [(7,zI z1),(8,(zI (Aj .i64 (Int.add z2 (1:Int))))),(9,zI z3)]) (hT 2 [(.cells Ay true false [])]) (.k0 [false,false] [] [7,8,9]) ?_)))
     replace hm:=Ae hm;obtain⟨h7,hm⟩:=hm
     refine .reg (eC 3 (keep (hT 2 [(.cells Ay true false [])]) (bb (Bd z1 (0:Int)) none (some (zI (Int.tmod (Aj .i64 (Int.mul (2:Int) z3)) z1))))) (XH h7) (eE)) ?_
     exact⟨(z1,(Aj .i64 (Int.add z2 (1:Int))),(Int.tmod (Aj .i64 (Int.mul (2:Int) z3)) z1)),hm,(.k0 [false,false] [] [7,8,9])⟩
    ·refine Dn (nt (Bd z3 (Int.tmod (1:Int) z1))) h6 ?_
     refine .exit ?_
     exact⟨z2,hm,(.k0 [false,false] [] [8])⟩
def Wm (pu:Af) (n n0 c0:Nat) (q0:LV):OV:=
 (bb (Au Ah q0) (bb (an (Nat.ble (0+n0*1) (len q0)) (Au Ah (Aq (n0*1) (Am 0 q0)))) (some (.tuple ⟨[(Sl.v 1 (Sl.mk n0 0 (Aq (n0*1) (Am 0 q0)))),(.int .i64 (0:Int))]⟩)) none) none)
def Yw (pu:Af) (n:Nat) (ih0:Sl→Int→Nat→Nat→Sl→Int→Int→LV→OV) (s0:Sl) (z0:Int) (n0 c0:Nat) (s1:Sl) (z1 z2:Int) (q0:LV):OV:=
 (bb (Au Ah q0) (bb (AY z2 z1) (oo (EA z2) none fun k1=>(bb (an (Nat.blt k1 (Sl.n s1)) true) (oo (AL (Sl.cs s1) (k1*1)) none fun v0=>(oo (Bi .i64 v0) none fun x0=>(oo (pu 101 [(.int .i64 (Int.ofNat (Sl.n s0))),.int .i64 z0,(.int .i64 (Int.ofNat k1))]) none fun v1=>(oo (Bi .i64 v1) none fun x1=>(oo (EA x1) none fun k2=>(bb (an (Nat.blt k2 n0) true) (bb (an (Nat.ble ((0+k2*1)+1) (len q0)) true) (bb (Au Ah (BM ([.int .i64 x0]:LV) (0+k2*1) q0)) (ih0 s0 z0 n0 c0 s1 z1 (Aj .i64 (Int.add (Int.ofNat k1) (1:Int))) (BM ([.int .i64 x0]:LV) (0+k2*1) q0)) none) none) none)))))) none)) (Wm pu n n0 c0 q0)) none)
def Yy (pu:Af) (n w:Nat):Sl→Int→Nat→Nat→Sl→Int→Int→LV→OV:=
 Nat.rec (motive:=fun _=>Sl→Int→Nat→Nat→Sl→Int→Int→LV→OV) (fun _ _ _ _ _ _ _ _=>none) (fun _ ih0=>Yw pu n ih0) w
def AiS (pu:Af) (n:Nat) (s0:Sl) (x0:Int):OV:=
 (oo (pu 76 [Sl.v 1 s0]) none fun v0=>(oo (Bi .i64 v0) none fun x1=>(bb (nt (Bd x1 (0:Int))) (some (.tuple ⟨[(Sl.v 1 (Sl.mk 0 2 [])),.int .i64 x1]⟩)) (oo (pu 100 [(.int .i64 (0:Int)),.int .i64 x0,(.int .i64 (1:Int))]) none fun v1=>(oo (Bf v1) none fun b0=>(bb (nt b0) (some (.tuple ⟨[(Sl.v 1 (Sl.mk 0 2 [])),(.int .i64 (8:Int))]⟩)) (bb (Bd (Int.tmod (Int.ofNat (Sl.n s0)) (2:Int)) (1:Int)) (some (.tuple ⟨[(Sl.v 1 (Sl.mk 0 2 [])),(.int .i64 (5:Int))]⟩)) (bb (an (Nat.ble (Sl.n s0) (Sl.n s0)) (an (Nat.ble ((Sl.n s0)*8) 1099511627776) (an (Nat.ble (Sl.n s0) 1099511627776) true))) (bb (Au Ah (AF ([(.int .i64 (0:Int))]:LV) (Sl.n s0))) (Yy pu n n s0 x0 (Sl.n s0) (2*(Sl.n s0)+bb true 1 0) s0 (Int.ofNat (Sl.n s0)) (0:Int) (AF ([(.int .i64 (0:Int))]:LV) (Sl.n s0))) none) none))))))))
def m42 (pu:Af) (n:Nat) (args:LV):OV:=
 (ll args none fun a0 args=>(ll args none fun a1 args=>(ll args (oo (Bj 1 a0) none fun s0=>(oo (Bi .i64 a1) none fun x0=>(AiS pu n s0 x0))) fun _ _=>none)))
theorem AiT (pu:Af) (n n0 c0:Nat) (q0:LV) {v:Value} (hm:Wm pu n n0 c0 q0=some v):BN tt (Bb tabs isP pu (inl pu)) 2 XZ (fr 45 [(7,sc 2 0 1 n0 c0)]) (hT 3 [(.cells Ay true false []),oC q0]) (Fin tt 2 [.tmp 4,.tmp 5] v):=by
 unfold Wm at hm
 refine .then (.rK ?_)
 replace hm:=Ae hm;obtain⟨h0,hm⟩:=hm
 refine .ghs (fr 45 [(4,sc 2 0 1 n0 c0),(5,(zI (0:Int)))]) (hT 3 [(.cells Ay true false []),oC q0]) (.k [2] [false,false] [.tmp 4 false] [4,5] ⟨BB h0,trivial⟩) ?_
 replace hm:=Ae hm;obtain⟨h1,hm⟩:=hm
 refine .ghs (Fr.puts (fr 45 [(4,sc 2 0 1 n0 c0),(5,(zI (0:Int)))]) [(4,(Sl.v 1 (Sl.mk n0 0 (Aq (n0*1) (Am 0 q0)))))]) (hT 3 [(.cells Ay true false []),.dead]) (.freezeC 2 4 1 (an (Nat.ble (0+n0*1) (len q0)) (Au Ah (Aq (n0*1) (Am 0 q0)))) (F1:=(Fr.puts (fr 45 [(4,sc 2 0 1 n0 c0),(5,(zI (0:Int)))]) [(4,(Sl.v 1 (Sl.mk n0 0 (Aq (n0*1) (Am 0 q0)))))])) (H1:=(hT 3 [(.cells Ay true false []),.dead])) (by kernel_rfl) (by kernel_rfl) h1 (E9.id _ _)) ?_
 refine .ret ?_
 exact Bq (.tuple ⟨[(Sl.v 1 (Sl.mk n0 0 (Aq (n0*1) (Am 0 q0)))),(zI (0:Int))]⟩) hm
theorem r42 {call:A8} (pu:Af) (n:Nat) (hcall:call=Bb tabs isP pu (inl pu)) {args:LV} {v:Value} (hm:m42 pu n args=some v) (_:∀ x∈args,closed2 x=true):args.length≤45∧BN tt call 2 QN (Fr.made 45 args) (Ao tabs) (Fin tt 2 [.tmp 4,.tmp 5] v):=by
 subst hcall
 unfold m42 at hm
 replace hm:=Ad hm;obtain⟨a0,args_0,rfl,hm⟩:=hm
 replace hm:=Ad hm;obtain⟨a1,args_1,rfl,hm⟩:=hm
 replace hm:=AC hm;obtain⟨rfl,hm⟩:=hm
 replace hm:=Al hm;obtain⟨s0,rfl,hm⟩:=hm
 replace hm:=Ai hm;obtain⟨x0,rfl,hm⟩:=hm
 unfold AiS at hm
 refine⟨by simp,?_⟩
 refine .same (F':=(fr 45 [(0,Sl.v 1 s0),(1,zI x0)])) (H':=(hT 2 [(.cells Ay true false [])])) (by kernel_rfl) (by kernel_rfl) ?_
 refine .then (.rK (.ghs (fr 45 [(0,Sl.v 1 s0),(1,zI x0)]) (hT 2 [(.cells Ay true false [])]) (.k0 [false,false] [] [0,1]) ?_))
 refine .then ?_
 replace hm:=K6 hm;obtain⟨x1,h0,hm⟩:=hm
 refine .reg (eC 1 ((oo (pu 76 [Sl.v 1 s0]) none fun v=>some (v,(hT 2 [(.cells Ay true false [])])))) (AB h0) (eE)) ?_
 refine .ghs (fr 45 [(0,Sl.v 1 s0),(1,zI x0),(6,zI x1)]) (hT 2 [(.cells Ay true false [])]) (.k0 [false,false] [] [0,1,6]) ?_
 refine .then (.block (.then (.rK (.ghs (fr 45 [(0,Sl.v 1 s0),(1,zI x0),(6,zI x1),(12,(zB (nt (Bd x1 (0:Int)))))]) (hT 2 [(.cells Ay true false [])]) (.k0 [false,false] [] [0,1,6,12]) ?_))))
 replace hm:=Ag hm;rcases hm with⟨h1,hm⟩ | ⟨h1,hm⟩
 ·refine C8 (nt (Bd x1 (0:Int))) h1 ?_
  refine .then (.rK (.ghs (fr 45 [(4,(.slice none 0 0)),(5,zI x1)]) (hT 2 [(.cells Ay true false [])]) (.k0 [false,false] [] [4,5]) ?_))
  refine .ghs (Fr.puts (fr 45 [(4,(.slice none 0 0)),(5,zI x1)]) [(4,(Sl.v 1 (Sl.mk 0 2 [])))]) (hT 2 [(.cells Ay true false [])]) (.freeze 2 4 1 (by kernel_rfl) (by kernel_rfl) (E9.id _ _)) ?_
  refine .ret ?_
  exact Bq (.tuple ⟨[(Sl.v 1 (Sl.mk 0 2 [])),zI x1]⟩) hm
 ·refine Dn (nt (Bd x1 (0:Int))) h1 ?_
  refine .then ?_
  replace hm:=Yn hm;obtain⟨b0,h2,hm⟩:=hm
  refine .reg (eC 1 ((oo (pu 100 [(zI (0:Int)),zI x0,(zI (1:Int))]) none fun v=>some (v,(hT 2 [(.cells Ay true false [])])))) (AB h2) (eE)) ?_
  refine .ghs (fr 45 [(0,Sl.v 1 s0),(1,zI x0),(16,(zB (nt b0)))]) (hT 2 [(.cells Ay true false [])]) (.k0 [false,false] [] [0,1,16]) ?_
  replace hm:=Ag hm;rcases hm with⟨h3,hm⟩ | ⟨h3,hm⟩
  ·refine C8 (nt b0) h3 ?_
   refine .then (.rK (.ghs (fr 45 [(4,(.slice none 0 0)),(5,(zI (8:Int)))]) (hT 2 [(.cells Ay true false [])]) (.k0 [false,false] [] [4,5]) ?_))
   refine .ghs (Fr.puts (fr 45 [(4,(.slice none 0 0)),(5,(zI (8:Int)))]) [(4,(Sl.v 1 (Sl.mk 0 2 [])))]) (hT 2 [(.cells Ay true false [])]) (.freeze 2 4 1 (by kernel_rfl) (by kernel_rfl) (E9.id _ _)) ?_
   refine .ret ?_
   exact Bq (.tuple ⟨[(Sl.v 1 (Sl.mk 0 2 [])),(zI (8:Int))]⟩) hm
  ·refine Dn (nt b0) h3 ?_
   refine .then (.rK (.ghs (fr 45 [(0,Sl.v 1 s0),(1,zI x0),(20,(zB (Bd (Int.tmod (Int.ofNat (Sl.n s0)) (2:Int)) (1:Int))))]) (hT 2 [(.cells Ay true false [])]) (.k0 [false,false] [] [0,1,20]) ?_))
   replace hm:=Ag hm;rcases hm with⟨h4,hm⟩ | ⟨h4,hm⟩
   ·refine C8 (Bd (Int.tmod (Int.ofNat (Sl.n s0)) (2:Int)) (1:Int)) h4 ?_
    refine .then (.rK (.ghs (fr 45 [(4,(.slice none 0 0)),(5,(zI (5:Int)))]) (hT 2 [(.cells Ay true false [])]) (.k0 [false,false] [] [4,5]) ?_))
    refine .ghs (Fr.puts (fr 45 [(4,(.slice none 0 0)),(5,(zI (5:Int)))]) [(4,(Sl.v 1 (Sl.mk 0 2 [])))]) (hT 2 [(.cells Ay true false [])]) (.freeze 2 4 1 (by kernel_rfl) (by kernel_rfl) (E9.id _ _)) ?_
    refine .ret ?_
    exact Bq (.tuple ⟨[(Sl.v 1 (Sl.mk 0 2 [])),(zI (5:Int))]⟩) hm
   ·refine Dn (Bd (Int.tmod (Int.ofNat (Sl.n s0)) (2:Int)) (1:Int)) h4 ?_
    refine .skip (.ghs (fr 45 [(0,Sl.v 1 s0),(1,zI x0)]) (hT 2 [(.cells Ay true false [])]) (.k0 [false,false] [] [0,1]) ?_)
    refine .then ?_
    replace hm:=Ae hm;obtain⟨h5,hm⟩:=hm
    refine .reg (eC 2 (bb (an (Nat.ble (Sl.n s0) (Sl.n s0)) (an (Nat.ble ((Sl.n s0)*8) 1099511627776) (an (Nat.ble (Sl.n s0) 1099511627776) true))) (some ((sc 2 0 1 (Sl.n s0) (2*(Sl.n s0)+bb true 1 0)),(hT 3 [(.cells Ay true false []),(oC (AF ([(zI (0:Int))]:LV) (Sl.n s0)))]))) none) (kH h5) (eE)) ?_
    replace hm:=Ae hm;obtain⟨h6,hm⟩:=hm
    refine .ghs (fr 45 [(0,Sl.v 1 s0),(1,zI x0),(7,(sc 2 0 1 (Sl.n s0) (2*(Sl.n s0)+bb true 1 0)))]) (hT 3 [(.cells Ay true false []),(oC (AF ([(zI (0:Int))]:LV) (Sl.n s0)))]) (.k [2] [false,false] [.tmp 7 false] [0,1,7] ⟨BB h6,trivial⟩) ?_
    refine .join (v:=v) (fun y:Nat×Nat×LV=>((fr 45 [(7,(sc 2 0 1 y.1 y.2.1))]),(hT 3 [(.cells Ay true false []),(oC y.2.2)]))) (fun y=>Wm pu n y.1 y.2.1 y.2.2) ?_ ?_
    ·rintro⟨n0,c0,q0⟩ hm
     exact AiT pu n n0 c0 q0 hm
    ·refine .then (.rK (.ghs (fr 45 [(0,Sl.v 1 s0),(1,zI x0),(7,(sc 2 0 1 (Sl.n s0) (2*(Sl.n s0)+bb true 1 0))),(28,Sl.v 1 s0),(29,(zI (Int.ofNat (Sl.n s0)))),(30,(zI (0:Int)))]) (hT 3 [(.cells Ay true false []),(oC (AF ([(zI (0:Int))]:LV) (Sl.n s0)))]) (.k [2] [false,false] [.tmp 7 false] [0,1,7,28,29,30] ⟨BB h6,trivial⟩) ?_))
     refine .block (.loopM (v:=v) (fun y:Sl×Int×Nat×Nat×Sl×Int×Int×LV=>((fr 45 [(0,(Sl.v 1 y.1)),(1,(zI y.2.1)),(7,(sc 2 0 1 y.2.2.1 y.2.2.2.1)),(28,(Sl.v 1 y.2.2.2.2.1)),(29,(zI y.2.2.2.2.2.1)),(30,(zI y.2.2.2.2.2.2.1))]),(hT 3 [(.cells Ay true false []),(oC y.2.2.2.2.2.2.2)]))) (fun w y=>Yy pu n w y.1 y.2.1 y.2.2.1 y.2.2.2.1 y.2.2.2.2.1 y.2.2.2.2.2.1 y.2.2.2.2.2.2.1 y.2.2.2.2.2.2.2) n ⟨(s0,x0,(Sl.n s0),(2*(Sl.n s0)+bb true 1 0),s0,(Int.ofNat (Sl.n s0)),(0:Int),(AF ([(zI (0:Int))]:LV) (Sl.n s0))),hm,(.k [2] [false,false] [.tmp 7 false] [0,1,7,28,29,30] ⟨BB h6,trivial⟩)⟩ (fun _=>rfl) ?_)
     rintro w0 ⟨s1,z0,n1,c1,s2,z1,z2,q1⟩ hm
     replace hm:Yw pu n (Yy pu n w0) s1 z0 n1 c1 s2 z1 z2 q1=some v:=hm
     unfold Yw at hm
     refine .then (.rK ?_)
     replace hm:=Ae hm;obtain⟨h7,hm⟩:=hm
     refine .ghs (fr 45 [(0,Sl.v 1 s1),(1,zI z0),(7,sc 2 0 1 n1 c1),(28,Sl.v 1 s2),(29,zI z1),(30,zI z2),(31,(zB (AY z2 z1)))]) (hT 3 [(.cells Ay true false []),oC q1]) (.k [2] [false,false] [.tmp 7 false] [0,1,7,28,29,30,31] ⟨BB h7,trivial⟩) ?_
     refine .then ?_
     replace hm:=Ag hm;rcases hm with⟨h8,hm⟩ | ⟨h8,hm⟩
     ·refine C8 (AY z2 z1) h8 ?_
      refine .skip (.ghs (fr 45 [(0,Sl.v 1 s1),(1,zI z0),(7,sc 2 0 1 n1 c1),(28,Sl.v 1 s2),(29,zI z1),(30,zI z2)]) (hT 3 [(.cells Ay true false []),oC q1]) (.k [2] [false,false] [.tmp 7 false] [0,1,7,28,29,30] ⟨BB h7,trivial⟩) ?_)
      refine .then (.block (.then ?_))
      replace hm:=Ab hm;obtain⟨k1,h9,hm⟩:=hm
      obtain rfl:=AR h9
      replace hm:=Ae hm;obtain⟨h10,hm⟩:=hm
      replace hm:=K6 hm;obtain⟨x2,h11,hm⟩:=hm
      refine .reg (eC 1 (keep (hT 3 [(.cells Ay true false []),oC q1]) (bb (an (Nat.blt k1 (Sl.n s2)) true) (some (Cv (k1*1) (Sl.cs s2))) none)) (AX h10) (eD (keep (hT 3 [(.cells Ay true false []),oC q1]) (AL (Sl.cs s2) (k1*1))) (AZ h11) (eE))) ?_
      refine .ghs (fr 45 [(0,Sl.v 1 s1),(1,zI z0),(7,sc 2 0 1 n1 c1),(8,(zI (Int.ofNat k1))),(9,zI x2),(28,Sl.v 1 s2),(29,zI z1),(30,(zI (Int.ofNat k1)))]) (hT 3 [(.cells Ay true false []),oC q1]) (.k [2] [false,false] [.tmp 7 false] [0,1,7,8,9,28,29,30] ⟨BB h7,trivial⟩) ?_
      replace hm:=K6 hm;obtain⟨x3,h12,hm⟩:=hm
      replace hm:=Ab hm;obtain⟨k2,h13,hm⟩:=hm
      obtain rfl:=AR h13
      replace hm:=Ae hm;obtain⟨h14,hm⟩:=hm
      replace hm:=Ae hm;obtain⟨h15,hm⟩:=hm
      refine .reg (eC 5 ((oo (pu 101 [(zI (Int.ofNat (Sl.n s1))),zI z0,(zI (Int.ofNat k1))]) none fun v=>some (v,(hT 3 [(.cells Ay true false []),oC q1])))) (AB h12) (eC 1 (keep (hT 3 [(.cells Ay true false []),oC q1]) (bb (an (Nat.blt k2 n1) true) (some (.pointer (some ⟨2,(0+k2*1),none⟩))) none)) (AX h14) (eD (done (bb (an (Nat.ble ((0+k2*1)+1) (len q1)) true) (some (hT 3 [(.cells Ay true false []),(oC (BM ([zI x2]:LV) (0+k2*1) q1))])) none) undef) (Js h15) (eE)))) ?_
      replace hm:=Ae hm;obtain⟨h17,hm⟩:=hm
      refine .ghs (fr 45 [(0,Sl.v 1 s1),(1,zI z0),(7,sc 2 0 1 n1 c1),(28,Sl.v 1 s2),(29,zI z1),(30,(zI (Int.ofNat k1)))]) (hT 3 [(.cells Ay true false []),(oC (BM ([zI x2]:LV) (0+k2*1) q1))]) (.k [2] [false,false] [.tmp 7 false] [0,1,7,28,29,30] ⟨BB h17,trivial⟩) ?_
      refine .rK ?_
      exact⟨(s1,z0,n1,c1,s2,z1,(Aj .i64 (Int.add (Int.ofNat k1) (1:Int))),(BM ([zI x2]:LV) (0+k2*1) q1)),hm,(.k [2] [false,false] [.tmp 7 false] [0,1,7,28,29,30] ⟨BB h17,trivial⟩)⟩
     ·refine Dn (AY z2 z1) h8 ?_
      refine .exit ?_
      exact⟨(n1,c1,q1),hm,(.k [2] [false,false] [.tmp 7 false] [7] ⟨BB h7,trivial⟩)⟩
def Wn (pu:Af) (n:Nat) (z0:Int) (b0:Bool) (z1:Int) (s0:Sl) (z2 z3 z4:Int):OV:=
 (bb b0 (some (.tuple ⟨[(.agg ⟨[(.int .i64 (0:Int)),(Sl.v 1 (Sl.mk 0 2 []))]⟩),(.int .i64 (1:Int))]⟩)) (oo (pu 102 [.int .i64 z0,.int .i64 z1]) none fun v0=>(oo (Bf v0) none fun b1=>(bb (nt b1) (some (.tuple ⟨[(.agg ⟨[(.int .i64 (0:Int)),(Sl.v 1 (Sl.mk 0 2 []))]⟩),(.int .i64 (13:Int))]⟩)) (oo (pu 61 [(.agg ⟨[.int .i64 z3,.int .u32 z4]⟩),.int .i64 z0]) none fun v1=>(oo (Bt v1) none fun l0=>(ll l0 none fun v2 l0=>(ll l0 none fun v3 l0=>(ll l0 (oo (Bi .i64 v2) none fun x0=>(oo (Bi .u32 v3) none fun x1=>(oo (pu 57 [(.agg ⟨[.int .i64 x0,.int .u32 x1]⟩)]) none fun v4=>(oo (Bt v4) none fun l1=>(ll l1 none fun v5 l1=>(ll l1 none fun v6 l1=>(ll l1 (oo (Bi .i64 v5) none fun x2=>(oo (Bj 1 v6) none fun s1=>(some (.tuple ⟨[(.agg ⟨[.int .i64 x2,Sl.v 1 s1]⟩),(.int .i64 (0:Int))]⟩)))) fun _ _=>none))))))) fun _ _=>none)))))))))
def AiU (pu:Af) (n:Nat) (x0:Int) (s0:Sl) (x1:Int):OV:=
 (oo (pu 54 [(.agg ⟨[.int .i64 x0,Sl.v 1 s0]⟩)]) none fun v0=>(oo (CQ v0) none fun l0=>(ll l0 none fun v1 l0=>(ll l0 none fun v2 l0=>(ll l0 (oo (Bt v1) none fun l1=>(ll l1 none fun v3 l1=>(ll l1 none fun v4 l1=>(ll l1 (oo (Bi .i64 v3) none fun x2=>(oo (Bi .u32 v4) none fun x3=>(oo (Bi .i64 v2) none fun x4=>(bb (nt (Bd x4 (0:Int))) (some (.tuple ⟨[(.agg ⟨[(.int .i64 (0:Int)),(Sl.v 1 (Sl.mk 0 2 []))]⟩),.int .i64 x4]⟩)) (bb (AY x1 (1:Int)) (Wn pu n x1 true x0 s0 (0:Int) x2 x3) (Wn pu n x1 (AY x0 x1) x0 s0 (0:Int) x2 x3)))))) fun _ _=>none)))) fun _ _=>none)))))
def m43 (pu:Af) (n:Nat) (args:LV):OV:=
 (ll args none fun a0 args=>(ll args none fun a1 args=>(ll args (oo (Bt a0) none fun l0=>(ll l0 none fun v0 l0=>(ll l0 none fun v1 l0=>(ll l0 (oo (Bi .i64 v0) none fun x0=>(oo (Bj 1 v1) none fun s0=>(oo (Bi .i64 a1) none fun x1=>(AiU pu n x0 s0 x1)))) fun _ _=>none)))) fun _ _=>none)))
theorem r43 {call:A8} (pu:Af) (n:Nat) (hcall:call=Bb tabs isP pu (inl pu)) {args:LV} {v:Value} (hm:m43 pu n args=some v) (_:∀ x∈args,closed2 x=true):args.length≤39∧BN tt call 2 QO (Fr.made 39 args) (Ao tabs) (Fin tt 2 [.cell 4 41,.tmp 5] v):=by
 subst hcall
 unfold m43 at hm
 replace hm:=Ad hm;obtain⟨a0,args_0,rfl,hm⟩:=hm
 replace hm:=Ad hm;obtain⟨a1,args_1,rfl,hm⟩:=hm
 replace hm:=AC hm;obtain⟨rfl,hm⟩:=hm
 replace hm:=BG hm;obtain⟨l0,rfl,hm⟩:=hm
 replace hm:=Ad hm;obtain⟨v0,l112843_0,rfl,hm⟩:=hm
 replace hm:=Ad hm;obtain⟨v1,l112843_1,rfl,hm⟩:=hm
 replace hm:=AC hm;obtain⟨rfl,hm⟩:=hm
 replace hm:=Ai hm;obtain⟨x0,rfl,hm⟩:=hm
 replace hm:=Al hm;obtain⟨s0,rfl,hm⟩:=hm
 replace hm:=Ai hm;obtain⟨x1,rfl,hm⟩:=hm
 unfold AiU at hm
 refine⟨by simp,?_⟩
 refine .same (F':=(fr 39 [(0,(.agg ⟨[zI x0,Sl.v 1 s0]⟩)),(1,zI x1)])) (H':=(hT 2 [(.cells Ay true false [])])) (by kernel_rfl) (by kernel_rfl) ?_
 refine .then (.rK (.ghs (fr 39 [(1,zI x1),(2,(pt 2 0)),(4,(pt 3 0))]) (hT 4 [(.cells Ay true false []),(oC [zI x0,Sl.v 1 s0]),(oC [(zI (0:Int)),(.slice none 0 0)])]) (.k0 [false,false] [.tmp 2 false,.tmp 4 false] [1,2,4]) ?_))
 refine .then ?_
 replace hm:=Ab hm;obtain⟨v2,h0,hm⟩:=hm
 replace hm:=Ch hm;obtain⟨l1,rfl,hm⟩:=hm
 replace hm:=Ad hm;obtain⟨v3,l112871_0,rfl,hm⟩:=hm
 replace hm:=Ad hm;obtain⟨v4,l112871_1,rfl,hm⟩:=hm
 replace hm:=AC hm;obtain⟨rfl,hm⟩:=hm
 replace hm:=BG hm;obtain⟨l2,rfl,hm⟩:=hm
 replace hm:=Ad hm;obtain⟨v5,l112875_0,rfl,hm⟩:=hm
 replace hm:=Ad hm;obtain⟨v6,l112875_1,rfl,hm⟩:=hm
 replace hm:=AC hm;obtain⟨rfl,hm⟩:=hm
 replace hm:=Ai hm;obtain⟨x2,rfl,hm⟩:=hm
 replace hm:=Ai hm;obtain⟨x3,rfl,hm⟩:=hm
 replace hm:=Ai hm;obtain⟨x4,rfl,hm⟩:=hm
 refine .reg (eC 1 ((oo (pu 54 [(.agg ⟨[zI x0,Sl.v 1 s0]⟩)]) none fun v=>some (v,(hT 4 [(.cells Ay true false []),(oC [zI x0,Sl.v 1 s0]),(oC [(zI (0:Int)),(.slice none 0 0)])])))) (AB h0) (eE)) ?_
 refine .ghs (fr 39 [(1,zI x1),(2,(pt 2 0)),(4,(pt 3 0)),(6,(pt 4 0)),(7,zI x4)]) (hT 5 [(.cells Ay true false []),(oC [zI x0,Sl.v 1 s0]),(oC [(zI (0:Int)),(.slice none 0 0)]),(oC [zI x2,.int .u32 x3])]) (.k0 [false,false] [.tmp 2 false,.tmp 4 false,.tmp 6 false] [1,2,4,6,7]) ?_
 refine .then (.block (.then (.rK (.ghs (fr 39 [(1,zI x1),(2,(pt 2 0)),(4,(pt 3 0)),(6,(pt 4 0)),(7,zI x4),(13,(zB (nt (Bd x4 (0:Int)))))]) (hT 5 [(.cells Ay true false []),(oC [zI x0,Sl.v 1 s0]),(oC [(zI (0:Int)),(.slice none 0 0)]),(oC [zI x2,.int .u32 x3])]) (.k0 [false,false] [.tmp 2 false,.tmp 4 false,.tmp 6 false] [1,2,4,6,7,13]) ?_))))
 replace hm:=Ag hm;rcases hm with⟨h1,hm⟩ | ⟨h1,hm⟩
 ·refine C8 (nt (Bd x4 (0:Int))) h1 ?_
  refine .then (.rK (.ghs (fr 39 [(4,(pt 2 0)),(5,zI x4)]) (hT 3 [(.cells Ay true false []),(oC [(zI (0:Int)),(.slice none 0 0)])]) (.k0 [false,false] [.tmp 4 false] [4,5]) ?_))
  refine .ret ?_
  exact Uc (.tuple ⟨[(.agg ⟨[(zI (0:Int)),(.slice none 0 0)]⟩),zI x4]⟩) (.tuple ⟨[(.agg ⟨[(zI (0:Int)),(Sl.v 1 (Sl.mk 0 2 []))]⟩),zI x4]⟩) (by kernel_rfl) (FU.tup (.cons (FU.agg (.cons (FU.refl _ _ _) (.cons (.weak (PG.nil 1 2)) (Mr.nil _)))) (.cons (FU.refl _ _ _) (Mr.nil _)))) (by kernel_rfl) hm
 ·refine Dn (nt (Bd x4 (0:Int))) h1 ?_
  refine .join (v:=v) (fun y:Int×Bool×Int×Sl×Int×Int×Int=>((fr 39 [(1,(zI y.1)),(2,(pt 2 0)),(4,(pt 3 0)),(6,(pt 4 0)),(18,(zB y.2.1))]),(hT 5 [(.cells Ay true false []),(oC [(zI y.2.2.1),(Sl.v 1 y.2.2.2.1)]),(oC [(zI y.2.2.2.2.1),(.slice none 0 0)]),(oC [(zI y.2.2.2.2.2.1),(.int .u32 y.2.2.2.2.2.2)])]))) (fun y=>Wn pu n y.1 y.2.1 y.2.2.1 y.2.2.2.1 y.2.2.2.2.1 y.2.2.2.2.2.1 y.2.2.2.2.2.2) ?_ ?_
  ·rintro⟨z0,b0,z1,s1,z2,z3,z4⟩ hm
   unfold Wn at hm
   replace hm:=Ag hm;rcases hm with⟨h2,hm⟩ | ⟨h2,hm⟩
   ·refine .ifT b0 (by kernel_rfl) h2 ?_
    refine .then (.rK (.ghs (fr 39 [(4,(pt 2 0)),(5,(zI (1:Int)))]) (hT 3 [(.cells Ay true false []),(oC [(zI (0:Int)),(.slice none 0 0)])]) (.k0 [false,false] [.tmp 4 false] [4,5]) ?_))
    refine .ret ?_
    exact Uc (.tuple ⟨[(.agg ⟨[(zI (0:Int)),(.slice none 0 0)]⟩),(zI (1:Int))]⟩) (.tuple ⟨[(.agg ⟨[(zI (0:Int)),(Sl.v 1 (Sl.mk 0 2 []))]⟩),(zI (1:Int))]⟩) (by kernel_rfl) (FU.tup (.cons (FU.agg (.cons (FU.refl _ _ _) (.cons (.weak (PG.nil 1 2)) (Mr.nil _)))) (.cons (FU.refl _ _ _) (Mr.nil _)))) (by kernel_rfl) hm
   ·refine .ifF b0 (by kernel_rfl) h2 ?_
    refine .then ?_
    replace hm:=Yn hm;obtain⟨b1,h3,hm⟩:=hm
    refine .reg (eC 3 ((oo (pu 102 [zI z0,zI z1]) none fun v=>some (v,(hT 5 [(.cells Ay true false []),(oC [zI z1,Sl.v 1 s1]),(oC [zI z2,(.slice none 0 0)]),(oC [zI z3,.int .u32 z4])])))) (AB h3) (eE)) ?_
    refine .ghs (fr 39 [(1,zI z0),(4,(pt 2 0)),(6,(pt 3 0)),(28,(zB (nt b1)))]) (hT 4 [(.cells Ay true false []),(oC [zI z2,(.slice none 0 0)]),(oC [zI z3,.int .u32 z4])]) (.k0 [false,false] [.tmp 4 false,.tmp 6 false] [1,4,6,28]) ?_
    replace hm:=Ag hm;rcases hm with⟨h4,hm⟩ | ⟨h4,hm⟩
    ·refine C8 (nt b1) h4 ?_
     refine .then (.rK (.ghs (fr 39 [(4,(pt 2 0)),(5,(zI (13:Int)))]) (hT 3 [(.cells Ay true false []),(oC [(zI (0:Int)),(.slice none 0 0)])]) (.k0 [false,false] [.tmp 4 false] [4,5]) ?_))
     refine .ret ?_
     exact Uc (.tuple ⟨[(.agg ⟨[(zI (0:Int)),(.slice none 0 0)]⟩),(zI (13:Int))]⟩) (.tuple ⟨[(.agg ⟨[(zI (0:Int)),(Sl.v 1 (Sl.mk 0 2 []))]⟩),(zI (13:Int))]⟩) (by kernel_rfl) (FU.tup (.cons (FU.agg (.cons (FU.refl _ _ _) (.cons (.weak (PG.nil 1 2)) (Mr.nil _)))) (.cons (FU.refl _ _ _) (Mr.nil _)))) (by kernel_rfl) hm
    ·refine Dn (nt b1) h4 ?_
     refine .skip (.ghs (fr 39 [(1,zI z0),(4,(pt 2 0)),(6,(pt 3 0))]) (hT 4 [(.cells Ay true false []),(oC [zI z2,(.slice none 0 0)]),(oC [zI z3,.int .u32 z4])]) (.k0 [false,false] [.tmp 4 false,.tmp 6 false] [1,4,6]) ?_)
     refine .then ?_
     replace hm:=Ab hm;obtain⟨v7,h5,hm⟩:=hm
     replace hm:=BG hm;obtain⟨l3,rfl,hm⟩:=hm
     replace hm:=Ad hm;obtain⟨v8,l112929_0,rfl,hm⟩:=hm
     replace hm:=Ad hm;obtain⟨v9,l112929_1,rfl,hm⟩:=hm
     replace hm:=AC hm;obtain⟨rfl,hm⟩:=hm
     replace hm:=Ai hm;obtain⟨x5,rfl,hm⟩:=hm
     replace hm:=Ai hm;obtain⟨x6,rfl,hm⟩:=hm
     replace hm:=Ab hm;obtain⟨v10,h6,hm⟩:=hm
     replace hm:=BG hm;obtain⟨l4,rfl,hm⟩:=hm
     replace hm:=Ad hm;obtain⟨v11,l112939_0,rfl,hm⟩:=hm
     replace hm:=Ad hm;obtain⟨v12,l112939_1,rfl,hm⟩:=hm
     replace hm:=AC hm;obtain⟨rfl,hm⟩:=hm
     replace hm:=Ai hm;obtain⟨x7,rfl,hm⟩:=hm
     replace hm:=Al hm;obtain⟨s2,rfl,hm⟩:=hm
     refine .reg (eC 2 ((oo (pu 61 [(.agg ⟨[zI z3,.int .u32 z4]⟩),zI z0]) none fun v=>some (v,(hT 4 [(.cells Ay true false []),(oC [zI z2,(.slice none 0 0)]),(oC [zI z3,.int .u32 z4])])))) (AB h5) (eD ((oo (pu 57 [(.agg ⟨[zI x5,.int .u32 x6]⟩)]) none fun v=>some (v,(hT 4 [(.cells Ay true false []),(oC [zI z2,(.slice none 0 0)]),(oC [zI z3,.int .u32 z4])])))) (AB h6) (eE))) ?_
     refine .ghs (fr 39 [(4,(pt 2 0)),(5,(zI (0:Int)))]) (hT 3 [(.cells Ay true false []),(oC [zI x7,Sl.v 1 s2])]) (.k0 [false,false] [.tmp 4 false] [4,5]) ?_
     refine .ret ?_
     exact Bq (.tuple ⟨[(.agg ⟨[zI x7,Sl.v 1 s2]⟩),(zI (0:Int))]⟩) hm
  ·replace hm:=Ag hm;rcases hm with⟨h7,hm⟩ | ⟨h7,hm⟩
   ·refine .reg (eC 1 (some ((zB (AY x1 (1:Int))),(hT 5 [(.cells Ay true false []),(oC [zI x0,Sl.v 1 s0]),(oC [(zI (0:Int)),(.slice none 0 0)]),(oC [zI x2,.int .u32 x3])]))) (show _=some ((zB true),_) from (by rw[show (AY x1 (1:Int))=true from h7])) (eE)) ?_
    exact⟨(x1,true,x0,s0,(0:Int),x2,x3),hm,(.k0 [false,false] [.tmp 2 false,.tmp 4 false,.tmp 6 false] [1,2,4,6,18])⟩
   ·refine .reg (eC 1 (some ((zB (AY x1 (1:Int))),(hT 5 [(.cells Ay true false []),(oC [zI x0,Sl.v 1 s0]),(oC [(zI (0:Int)),(.slice none 0 0)]),(oC [zI x2,.int .u32 x3])]))) (show _=some ((zB false),_) from (by rw[show (AY x1 (1:Int))=false from h7])) (eE)) ?_
    exact⟨(x1,(AY x0 x1),x0,s0,(0:Int),x2,x3),hm,(.k0 [false,false] [.tmp 2 false,.tmp 4 false,.tmp 6 false] [1,2,4,6,18])⟩
end
end Go.TpFM
