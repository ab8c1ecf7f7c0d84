/- Made from wip. -/
import Derived.Test.YtflonlkiajhhjaaGreatDoorTpEMod0x

set_option maxRecDepth 100000
set_option maxHeartbeats 20000000
set_option linter.unusedVariables false
namespace Go.TpEM
open Go.Sp Go.TpE
noncomputable section
def UX (pu:Af) (n n0 c0:Nat) (q0:LV):OV:=
 (bb (Au Ah q0) (bb (an (Nat.ble (0+n0*1) (len q0)) (Au Ah (Aq (n0*1) (Am 0 q0)))) (some (Sl.v 1 (Sl.mk n0 0 (Aq (n0*1) (Am 0 q0))))) none) none)
def UY (pu:Af) (n:Nat) (ih0:Int→Nat→Nat→Int→Int→LV→OV) (z0:Int) (n0 c0:Nat) (z1 z2:Int) (q0:LV):OV:=
 (bb (Au Ah q0) (ih0 z0 n0 c0 z1 (Aj .i64 (Int.add z2 (1:Int))) q0) none)
def UZ (pu:Af) (n:Nat) (ih0:Int→Nat→Nat→Int→Int→LV→OV) (z0:Int) (n0 c0:Nat) (z1 z2 z3:Int) (b0:Bool) (q0:LV):OV:=
 (bb b0 (bb (GV 1 8 n0 c0 1 q0) (bb (Au Ah (Br (Am 0 q0) [.int .i64 z1])) (UY pu n ih0 z0 (n0+1) (2*(n0+1)+bb false 1 0) z2 z3 (Br (Am 0 q0) [.int .i64 z1])) none) none) (bb (Au Ah q0) (UY pu n ih0 z0 n0 c0 z2 z3 q0) none))
def Yo (pu:Af) (n:Nat) (ih0:Int→Nat→Nat→Int→Int→LV→OV) (z0:Int) (n0 c0:Nat) (z1 z2:Int) (q0:LV):OV:=
 (bb (Au Ah q0) (bb (AY z2 z1) (oo (EA z2) none fun k1=>(bb (Bd (Np .u32 (G6 .u32 z0 k1) (1:Int)) (1:Int)) (UZ pu n ih0 z0 n0 c0 (Int.ofNat k1) z1 (Int.ofNat k1) (AY (Int.ofNat n0) (6:Int)) q0) (UZ pu n ih0 z0 n0 c0 (Int.ofNat k1) z1 (Int.ofNat k1) false q0))) (UX pu n n0 c0 q0)) none)
def Si (pu:Af) (n w:Nat):Int→Nat→Nat→Int→Int→LV→OV:=
 Nat.rec (motive:=fun _=>Int→Nat→Nat→Int→Int→LV→OV) (fun _ _ _ _ _ _=>none) (fun _ ih0=>Yo pu n ih0) w
def Ag6 (pu:Af) (n:Nat) (x0 x1:Int):OV:=
 (Si pu n n x0 0 0 x1 (0:Int) ([]:LV))
def m16 (pu:Af) (n:Nat) (args:LV):OV:=
 (ll args none fun a0 args=>(ll args none fun a1 args=>(ll args (oo (Bi .u32 a0) none fun x0=>(oo (Bi .i64 a1) none fun x1=>(Ag6 pu n x0 x1))) fun _ _=>none)))
theorem Ag7 (pu:Af) (n n0 c0:Nat) (q0:LV) {v:Value} (hm:UX pu n n0 c0 q0=some v):BN tt (Bb tabs isP pu (inl pu)) 2 XP (fr 27 [(5,sc 2 0 1 n0 c0)]) (hT 3 [(.cells Ay true false []),oC q0]) (Fin tt 2 [.tmp 4] v):=by
 unfold UX at hm
 refine .then (.rK ?_)
 replace hm:=Ae hm;obtain⟨h0,hm⟩:=hm
 refine .ghs (fr 27 [(4,sc 2 0 1 n0 c0)]) (hT 3 [(.cells Ay true false []),oC q0]) (.k [2] [false,false] [.tmp 4 false] [4] ⟨A7 h0,trivial⟩) ?_
 replace hm:=Ae hm;obtain⟨h1,hm⟩:=hm
 refine .ghs (Fr.puts (fr 27 [(4,sc 2 0 1 n0 c0)]) [(4,(Sl.v 1 (Sl.mk n0 0 (Aq (n0*1) (Am 0 q0)))))]) (hT 3 [(.cells Ay true false []),.dead]) (.freezeC 2 4 1 (an (Nat.ble (0+n0*1) (len q0)) (Au Ah (Aq (n0*1) (Am 0 q0)))) (F1:=(Fr.puts (fr 27 [(4,sc 2 0 1 n0 c0)]) [(4,(Sl.v 1 (Sl.mk n0 0 (Aq (n0*1) (Am 0 q0)))))])) (H1:=(hT 3 [(.cells Ay true false []),.dead])) (by kernel_rfl) (by kernel_rfl) h1 (E9.id _ _)) ?_
 refine .ret ?_
 exact AO (Sl.v 1 (Sl.mk n0 0 (Aq (n0*1) (Am 0 q0)))) hm
theorem r16 {call:A8} (pu:Af) (n:Nat) (hcall:call=Bb tabs isP pu (inl pu)) {args:LV} {v:Value} (hm:m16 pu n args=some v) (_:∀ x∈args,closed2 x=true):args.length≤27∧BN tt call 2 Pk (Fr.made 27 args) (Ao tabs) (Fin tt 2 [.tmp 4] v):=by
 subst hcall
 unfold m16 at hm
 replace hm:=Ad hm;obtain⟨a0,args_0,rfl,hm⟩:=hm
 replace hm:=Ad hm;obtain⟨a1,args_1,rfl,hm⟩:=hm
 replace hm:=AC hm;obtain⟨rfl,hm⟩:=hm
 replace hm:=Ai hm;obtain⟨x0,rfl,hm⟩:=hm
 replace hm:=Ai hm;obtain⟨x1,rfl,hm⟩:=hm
 unfold Ag6 at hm
 refine⟨by simp,?_⟩
 refine .same (F':=(fr 27 [(0,.int .u32 x0),(1,zI x1)])) (H':=(hT 2 [(.cells Ay true false [])])) (by kernel_rfl) (by kernel_rfl) ?_
 refine .then (.rK (.ghs (fr 27 [(0,.int .u32 x0),(1,zI x1)]) (hT 2 [(.cells Ay true false [])]) (.k0 [false,false] [] [0,1]) ?_))
 refine .then (.rK (.ghs (fr 27 [(0,.int .u32 x0),(1,zI x1),(5,(.slice none 0 0))]) (hT 2 [(.cells Ay true false [])]) (.k0 [false,false] [] [0,1,5]) ?_))
 refine .join (v:=v) (fun y:Nat×Nat×LV=>((fr 27 [(5,(sc 2 0 1 y.1 y.2.1))]),(hT 3 [(.cells Ay true false []),(oC y.2.2)]))) (fun y=>UX pu n y.1 y.2.1 y.2.2) ?_ ?_
 ·rintro⟨n0,c0,q0⟩ hm
  exact Ag7 pu n n0 c0 q0 hm
 ·refine .then (.rK (.ghs (fr 27 [(0,.int .u32 x0),(5,(.slice none 0 0)),(7,zI x1),(8,(zI (0:Int)))]) (hT 2 [(.cells Ay true false [])]) (.k0 [false,false] [] [0,5,7,8]) ?_))
  refine .block (.loopM (v:=v) (fun y:Int×Nat×Nat×Int×Int×LV=>((fr 27 [(0,(.int .u32 y.1)),(5,(sc 2 0 1 y.2.1 y.2.2.1)),(7,(zI y.2.2.2.1)),(8,(zI y.2.2.2.2.1))]),(hT 3 [(.cells Ay true false []),(oC y.2.2.2.2.2)]))) (fun w y=>Si pu n w y.1 y.2.1 y.2.2.1 y.2.2.2.1 y.2.2.2.2.1 y.2.2.2.2.2) n ⟨(x0,0,0,x1,(0:Int),([]:LV)),hm,(.thaw 5 1 (by kernel_rfl) (.k0 [false,false] [.tmp 5 false] [0,5,7,8]))⟩ (fun _=>rfl) ?_)
  rintro w0 ⟨z0,n1,c1,z1,z2,q1⟩ hm
  replace hm:Yo pu n (Si pu n w0) z0 n1 c1 z1 z2 q1=some v:=hm
  unfold Yo at hm
  refine .then (.rK ?_)
  replace hm:=Ae hm;obtain⟨h0,hm⟩:=hm
  refine .ghs (fr 27 [(0,.int .u32 z0),(5,sc 2 0 1 n1 c1),(7,zI z1),(8,zI z2),(9,(zB (AY z2 z1)))]) (hT 3 [(.cells Ay true false []),oC q1]) (.k [2] [false,false] [.tmp 5 false] [0,5,7,8,9] ⟨A7 h0,trivial⟩) ?_
  refine .then ?_
  replace hm:=Ag hm;rcases hm with⟨h1,hm⟩ | ⟨h1,hm⟩
  ·refine BB (AY z2 z1) h1 ?_
   refine .skip (.ghs (fr 27 [(0,.int .u32 z0),(5,sc 2 0 1 n1 c1),(7,zI z1),(8,zI z2)]) (hT 3 [(.cells Ay true false []),oC q1]) (.k [2] [false,false] [.tmp 5 false] [0,5,7,8] ⟨A7 h0,trivial⟩) ?_)
   refine .join (v:=v) (fun y:Int×Nat×Nat×Int×Int×LV=>((fr 27 [(0,(.int .u32 y.1)),(5,(sc 2 0 1 y.2.1 y.2.2.1)),(7,(zI y.2.2.2.1)),(8,(zI y.2.2.2.2.1))]),(hT 3 [(.cells Ay true false []),(oC y.2.2.2.2.2)]))) (fun y=>UY pu n (Si pu n w0) y.1 y.2.1 y.2.2.1 y.2.2.2.1 y.2.2.2.2.1 y.2.2.2.2.2) ?_ ?_
   ·rintro⟨z3,n2,c2,z4,z5,q2⟩ hm
    unfold UY at hm
    refine .rK ?_
    replace hm:=Ae hm;obtain⟨h2,hm⟩:=hm
    exact⟨(z3,n2,c2,z4,(Aj .i64 (Int.add z5 (1:Int))),q2),hm,(.k [2] [false,false] [.tmp 5 false] [0,5,7,8] ⟨A7 h2,trivial⟩)⟩
   ·refine .block (.then (.rK (.ghs (fr 27 [(0,.int .u32 z0),(5,sc 2 0 1 n1 c1),(6,zI z2),(7,zI z1),(8,zI z2)]) (hT 3 [(.cells Ay true false []),oC q1]) (.k [2] [false,false] [.tmp 5 false] [0,5,6,7,8] ⟨A7 h0,trivial⟩) ?_)))
    refine .join (v:=v) (fun y:Int×Nat×Nat×Int×Int×Int×Bool×LV=>((fr 27 [(0,(.int .u32 y.1)),(5,(sc 2 0 1 y.2.1 y.2.2.1)),(6,(zI y.2.2.2.1)),(7,(zI y.2.2.2.2.1)),(8,(zI y.2.2.2.2.2.1)),(20,(zB y.2.2.2.2.2.2.1))]),(hT 3 [(.cells Ay true false []),(oC y.2.2.2.2.2.2.2)]))) (fun y=>UZ pu n (Si pu n w0) y.1 y.2.1 y.2.2.1 y.2.2.2.1 y.2.2.2.2.1 y.2.2.2.2.2.1 y.2.2.2.2.2.2.1 y.2.2.2.2.2.2.2) ?_ ?_
    ·rintro⟨z6,n3,c3,z7,z8,z9,b0,q3⟩ hm
     unfold UZ at hm
     replace hm:=Ag hm;rcases hm with⟨h3,hm⟩ | ⟨h3,hm⟩
     ·refine .ifT b0 (by kernel_rfl) h3 ?_
      replace hm:=Ae hm;obtain⟨h4,hm⟩:=hm
      refine .reg (eC 3 (Oc 1 8 n3 c3 1 2 q3 [zI z7] [] (hT 4 [(.cells Ay true false []),oC q3,(oC [zI z7])])) (I1 h4) (eE)) ?_
      replace hm:=Ae hm;obtain⟨h5,hm⟩:=hm
      exact⟨(z6,(n3+1),(d2 (n3+1)),z8,z9,(Br (Am 0 q3) [zI z7])),hm,(.k [4] [false,false] [.tmp 5 false] [0,5,7,8] ⟨A7 h5,trivial⟩)⟩
     ·refine .ifF b0 (by kernel_rfl) h3 ?_
      refine .skip ?_
      replace hm:=Ae hm;obtain⟨h6,hm⟩:=hm
      exact⟨(z6,n3,c3,z8,z9,q3),hm,(.k [2] [false,false] [.tmp 5 false] [0,5,7,8] ⟨A7 h6,trivial⟩)⟩
    ·replace hm:=Ab hm;obtain⟨k1,h7,hm⟩:=hm
     obtain rfl:=AR h7
     replace hm:=Ag hm;rcases hm with⟨h8,hm⟩ | ⟨h8,hm⟩
     ·refine .reg (eC 4 (some ((zB (Bd (Np .u32 (G6 .u32 z0 k1) (1:Int)) (1:Int))),(hT 3 [(.cells Ay true false []),oC q1]))) (show _=some ((zB true),_) from (by rw[show (Bd (Np .u32 (G6 .u32 z0 k1) (1:Int)) (1:Int))=true from h8])) (eE)) ?_
      exact⟨(z0,n1,c1,(Int.ofNat k1),z1,(Int.ofNat k1),(AY (Int.ofNat n1) (6:Int)),q1),hm,(.k [2] [false,false] [.tmp 5 false] [0,5,6,7,8,20] ⟨A7 h0,trivial⟩)⟩
     ·refine .reg (eC 4 (some ((zB (Bd (Np .u32 (G6 .u32 z0 k1) (1:Int)) (1:Int))),(hT 3 [(.cells Ay true false []),oC q1]))) (show _=some ((zB false),_) from (by rw[show (Bd (Np .u32 (G6 .u32 z0 k1) (1:Int)) (1:Int))=false from h8])) (eE)) ?_
      exact⟨(z0,n1,c1,(Int.ofNat k1),z1,(Int.ofNat k1),false,q1),hm,(.k [2] [false,false] [.tmp 5 false] [0,5,6,7,8,20] ⟨A7 h0,trivial⟩)⟩
  ·refine BI (AY z2 z1) h1 ?_
   refine .exit ?_
   exact⟨(n1,c1,q1),hm,(.k [2] [false,false] [.tmp 5 false] [5] ⟨A7 h0,trivial⟩)⟩

def Ag8 (pu:Af) (n:Nat):OV:=
 (oo (pu 10150 [(Sl.v 1 (Sl.mk 8 0 (Aq (8*1) (Am 0 ([(.int .i64 (0:Int)),(.int .i64 (1:Int)),(.int .i64 (2:Int)),(.int .i64 (5:Int)),(.int .i64 (8:Int)),(.int .i64 (7:Int)),(.int .i64 (6:Int)),(.int .i64 (3:Int))]:LV)))))]) none fun v0=>(oo (CQ v0) none fun l0=>(ll l0 none fun v1 l0=>(ll l0 (oo (Bj 1 v1) none fun s0=>(some (Sl.v 1 s0))) fun _ _=>none))))
def m17 (pu:Af) (n:Nat) (args:LV):OV:=
 (ll args (Ag8 pu n) fun _ _=>none)
theorem r17 {call:A8} (pu:Af) (n:Nat) (hcall:call=Bb tabs isP pu (inl pu)) {args:LV} {v:Value} (hm:m17 pu n args=some v) (_:∀ x∈args,closed2 x=true):args.length≤3∧BN tt call 2 UE (Fr.made 3 args) (Ao tabs) (Fin tt 2 [.tmp 0] v):=by
 subst hcall
 unfold m17 at hm
 replace hm:=AC hm;obtain⟨rfl,hm⟩:=hm
 unfold Ag8 at hm
 refine⟨by simp,?_⟩
 refine .same (F':=(fr 3 [])) (H':=(hT 2 [(.cells Ay true false [])])) (by kernel_rfl) (by kernel_rfl) ?_
 refine .then (.rK (.ghs (fr 3 []) (hT 2 [(.cells Ay true false [])]) (.k0 [false,false] [] []) ?_))
 refine .then ?_
 replace hm:=Ab hm;obtain⟨v0,h0,hm⟩:=hm
 replace hm:=Ch hm;obtain⟨l0,rfl,hm⟩:=hm
 replace hm:=Ad hm;obtain⟨v1,l5622_0,rfl,hm⟩:=hm
 replace hm:=AC hm;obtain⟨rfl,hm⟩:=hm
 replace hm:=Al hm;obtain⟨s0,rfl,hm⟩:=hm
 refine .reg (eC 1 (HV tabs [[some 1]] 1 [] [] (pu 10150) [sc 2 0 1 8 17] (hT 3 [(.cells Ay true false []),(oC [(zI (0:Int)),(zI (1:Int)),(zI (2:Int)),(zI (5:Int)),(zI (8:Int)),(zI (7:Int)),(zI (6:Int)),(zI (3:Int))])])) (Jw (as:=[(Sl.v 1 (Sl.mk 8 0 (Aq (8*1) (Am 0 ([(zI (0:Int)),(zI (1:Int)),(zI (2:Int)),(zI (5:Int)),(zI (8:Int)),(zI (7:Int)),(zI (6:Int)),(zI (3:Int))]:LV)))))]) (H1:=(hT 3 [(.cells Ay true false []),.dead])) (Kg (sD (eO (show ER 1 (sc 2 0 1 8 17) (hT 3 [(.cells Ay true false []),(oC [(zI (0:Int)),(zI (1:Int)),(zI (2:Int)),(zI (5:Int)),(zI (8:Int)),(zI (7:Int)),(zI (6:Int)),(zI (3:Int))])])=some ((Sl.v 1 (Sl.mk 8 0 (Aq (8*1) (Am 0 ([(zI (0:Int)),(zI (1:Int)),(zI (2:Int)),(zI (5:Int)),(zI (8:Int)),(zI (7:Int)),(zI (6:Int)),(zI (3:Int))]:LV))))),(hT 3 [(.cells Ay true false []),.dead])) from KH 2 0 1 8 17 ([(zI (0:Int)),(zI (1:Int)),(zI (2:Int)),(zI (5:Int)),(zI (8:Int)),(zI (7:Int)),(zI (6:Int)),(zI (3:Int))]:LV) [] (by kernel_rfl) (by kernel_rfl) (by kernel_rfl)))) MG) (Jv (H2:=(hT 3 [(.cells Ay true false []),.dead])) (v:=(Sl.v 1 s0)) (v':=(Sl.v 1 s0)) [some 0,some 1] [] [] [(Sl.v 1 (Sl.mk 8 0 (Aq (8*1) (Am 0 ([(zI (0:Int)),(zI (1:Int)),(zI (2:Int)),(zI (5:Int)),(zI (8:Int)),(zI (7:Int)),(zI (6:Int)),(zI (3:Int))]:LV)))))] [] [] [some 0,some 1,none] [] [] (by kernel_rfl) Fb (Eq.trans (by kernel_rfl) h0) Fb Fb)) (eE)) ?_
 refine .ghs (fr 3 [(0,Sl.v 1 s0)]) (hT 2 [(.cells Ay true false [])]) (.k0 [false,false] [] [0]) ?_
 refine .ret ?_
 exact AO (Sl.v 1 s0) hm
def U0 (pu:Af) (n:Nat):OV:=
 (some (.bool false))
def Yp (pu:Af) (n:Nat) (ih0:Int→Sl→Int→Int→OV) (z0:Int) (s0:Sl) (z1 z2:Int):OV:=
 (bb (AY z2 z1) (oo (EA z2) none fun k1=>(bb (an (Nat.blt k1 (Sl.n s0)) true) (oo (AL (Sl.cs s0) (k1*1)) none fun v0=>(oo (Bi .i64 v0) none fun x0=>(bb (Bd x0 z0) (some (.bool true)) (ih0 z0 s0 z1 (Aj .i64 (Int.add (Int.ofNat k1) (1:Int))))))) none)) (U0 pu n))
def Yq (pu:Af) (n w:Nat):Int→Sl→Int→Int→OV:=
 Nat.rec (motive:=fun _=>Int→Sl→Int→Int→OV) (fun _ _ _ _=>none) (fun _ ih0=>Yp pu n ih0) w
def Ag9 (pu:Af) (n:Nat) (s0:Sl) (x0:Int):OV:=
 (Yq pu n n x0 s0 (Int.ofNat (Sl.n s0)) (0:Int))
def m18 (pu:Af) (n:Nat) (args:LV):OV:=
 (ll args none fun a0 args=>(ll args none fun a1 args=>(ll args (oo (Bj 1 a0) none fun s0=>(oo (Bi .i64 a1) none fun x0=>(Ag9 pu n s0 x0))) fun _ _=>none)))
theorem Aha (pu:Af) (n:Nat) {v:Value} (hm:U0 pu n=some v):BN tt (Bb tabs isP pu (inl pu)) 2 XQ (fr 17 []) (hT 2 [(.cells Ay true false [])]) (Fin tt 2 [.tmp 4] v):=by
 unfold U0 at hm
 refine .then (.rK (.ghs (fr 17 [(4,zB false)]) (hT 2 [(.cells Ay true false [])]) (.k0 [false,false] [] [4]) ?_))
 refine .ret ?_
 exact AO (zB false) hm
theorem r18 {call:A8} (pu:Af) (n:Nat) (hcall:call=Bb tabs isP pu (inl pu)) {args:LV} {v:Value} (hm:m18 pu n args=some v) (_:∀ x∈args,closed2 x=true):args.length≤17∧BN tt call 2 Pm (Fr.made 17 args) (Ao tabs) (Fin tt 2 [.tmp 4] v):=by
 subst hcall
 unfold m18 at hm
 replace hm:=Ad hm;obtain⟨a0,args_0,rfl,hm⟩:=hm
 replace hm:=Ad hm;obtain⟨a1,args_1,rfl,hm⟩:=hm
 replace hm:=AC hm;obtain⟨rfl,hm⟩:=hm
 replace hm:=Al hm;obtain⟨s0,rfl,hm⟩:=hm
 replace hm:=Ai hm;obtain⟨x0,rfl,hm⟩:=hm
 unfold Ag9 at hm
 refine⟨by simp,?_⟩
 refine .same (F':=(fr 17 [(0,Sl.v 1 s0),(1,zI x0)])) (H':=(hT 2 [(.cells Ay true false [])])) (by kernel_rfl) (by kernel_rfl) ?_
 refine .then (.rK (.ghs (fr 17 [(0,Sl.v 1 s0),(1,zI x0)]) (hT 2 [(.cells Ay true false [])]) (.k0 [false,false] [] [0,1]) ?_))
 refine .join (v:=v) (fun y:Unit=>((fr 17 []),(hT 2 [(.cells Ay true false [])]))) (fun y=>U0 pu n) ?_ ?_
 ·rintro _ hm
  exact Aha pu n hm
 ·refine .then (.rK (.ghs (fr 17 [(1,zI x0),(7,Sl.v 1 s0),(8,(zI (Int.ofNat (Sl.n s0)))),(9,(zI (0:Int)))]) (hT 2 [(.cells Ay true false [])]) (.k0 [false,false] [] [1,7,8,9]) ?_))
  refine .block (.loopM (v:=v) (fun y:Int×Sl×Int×Int=>((fr 17 [(1,(zI y.1)),(7,(Sl.v 1 y.2.1)),(8,(zI y.2.2.1)),(9,(zI y.2.2.2))]),(hT 2 [(.cells Ay true false [])]))) (fun w y=>Yq pu n w y.1 y.2.1 y.2.2.1 y.2.2.2) n ⟨(x0,s0,(Int.ofNat (Sl.n s0)),(0:Int)),hm,(.k0 [false,false] [] [1,7,8,9])⟩ (fun _=>rfl) ?_)
  rintro w0 ⟨z0,s1,z1,z2⟩ hm
  replace hm:Yp pu n (Yq pu n w0) z0 s1 z1 z2=some v:=hm
  unfold Yp at hm
  refine .then (.rK (.ghs (fr 17 [(1,zI z0),(7,Sl.v 1 s1),(8,zI z1),(9,zI z2),(10,(zB (AY z2 z1)))]) (hT 2 [(.cells Ay true false [])]) (.k0 [false,false] [] [1,7,8,9,10]) ?_))
  refine .then ?_
  replace hm:=Ag hm;rcases hm with⟨h0,hm⟩ | ⟨h0,hm⟩
  ·refine BB (AY z2 z1) h0 ?_
   refine .skip (.ghs (fr 17 [(1,zI z0),(7,Sl.v 1 s1),(8,zI z1),(9,zI z2)]) (hT 2 [(.cells Ay true false [])]) (.k0 [false,false] [] [1,7,8,9]) ?_)
   refine .then (.block (.then ?_))
   replace hm:=Ab hm;obtain⟨k1,h1,hm⟩:=hm
   obtain rfl:=AR h1
   replace hm:=Ae hm;obtain⟨h2,hm⟩:=hm
   replace hm:=Gs hm;obtain⟨x1,h3,hm⟩:=hm
   refine .reg (eD (keep (hT 2 [(.cells Ay true false [])]) (bb (an (Nat.blt k1 (Sl.n s1)) true) (some (Cv (k1*1) (Sl.cs s1))) none)) (AX h2) (eD (keep (hT 2 [(.cells Ay true false [])]) (AL (Sl.cs s1) (k1*1))) (AZ h3) (eE))) ?_
   refine .ghs (fr 17 [(1,zI z0),(6,zI x1),(7,Sl.v 1 s1),(8,zI z1),(9,(zI (Int.ofNat k1)))]) (hT 2 [(.cells Ay true false [])]) (.k0 [false,false] [] [1,6,7,8,9]) ?_
   refine .then (.rK (.ghs (fr 17 [(1,zI z0),(7,Sl.v 1 s1),(8,zI z1),(9,(zI (Int.ofNat k1))),(15,(zB (Bd x1 z0)))]) (hT 2 [(.cells Ay true false [])]) (.k0 [false,false] [] [1,7,8,9,15]) ?_))
   replace hm:=Ag hm;rcases hm with⟨h4,hm⟩ | ⟨h4,hm⟩
   ·refine BB (Bd x1 z0) h4 ?_
    refine .then (.rK (.ghs (fr 17 [(4,zB true)]) (hT 2 [(.cells Ay true false [])]) (.k0 [false,false] [] [4]) ?_))
    refine .ret ?_
    exact AO (zB true) hm
   ·refine BI (Bd x1 z0) h4 ?_
    refine .skip (.ghs (fr 17 [(1,zI z0),(7,Sl.v 1 s1),(8,zI z1),(9,(zI (Int.ofNat k1)))]) (hT 2 [(.cells Ay true false [])]) (.k0 [false,false] [] [1,7,8,9]) ?_)
    refine .rK ?_
    exact⟨(z0,s1,z1,(Aj .i64 (Int.add (Int.ofNat k1) (1:Int)))),hm,(.k0 [false,false] [] [1,7,8,9])⟩
  ·refine BI (AY z2 z1) h0 ?_
   refine .exit ?_
   exact⟨(),hm,(.k0 [false,false] [] [])⟩
def VL (pu:Af) (n n0 c0:Nat) (q0:LV):OV:=
 (bb (Au Ah q0) (bb (an (Nat.ble (0+n0*1) (len q0)) (Au Ah (Aq (n0*1) (Am 0 q0)))) (some (.tuple ⟨[(Sl.v 1 (Sl.mk n0 0 (Aq (n0*1) (Am 0 q0)))),(.int .i64 (0:Int))]⟩)) none) none)
def VM (pu:Af) (n:Nat) (ih0:Sl→Nat→LV→Nat→Nat→Sl→Int→Int→LV→OV) (s0:Sl) (n0:Nat) (q0:LV) (n1 c0:Nat) (s1:Sl) (z0 z1:Int) (q1:LV):OV:=
 (bb (Au Ah q1) (ih0 s0 n0 q0 n1 c0 s1 z0 (Aj .i64 (Int.add z1 (1:Int))) q1) none)
def Yr (pu:Af) (n:Nat) (ih0:Sl→Nat→LV→Nat→Nat→Sl→Int→Int→LV→OV) (s0:Sl) (n0:Nat) (q0:LV) (n1 c0:Nat) (s1:Sl) (z0 z1:Int) (q1:LV):OV:=
 (bb (Au Ah q1) (bb (AY z1 z0) (oo (EA z1) none fun k1=>(bb (an (Nat.blt k1 (Sl.n s1)) true) (oo (AL (Sl.cs s1) (k1*1)) none fun v0=>(oo (Bi .i64 v0) none fun x0=>(oo (pu 53 [(Cv n0 q0),Sl.v 1 s0,(.int .i64 (Int.ofNat k1))]) none fun v1=>(oo (Bi .u16 v1) none fun x1=>(bb (Bd x1 (0:Int)) (bb (GV 1 8 n1 c0 1 q1) (bb (Au Ah (Br (Am 0 q1) [.int .i64 x0])) (VM pu n ih0 s0 n0 q0 (n1+1) (2*(n1+1)+bb false 1 0) s1 z0 (Int.ofNat k1) (Br (Am 0 q1) [.int .i64 x0])) none) none) (VM pu n ih0 s0 n0 q0 n1 c0 s1 z0 (Int.ofNat k1) q1)))))) none)) (VL pu n n1 c0 q1)) none)
def VU (pu:Af) (n w:Nat):Sl→Nat→LV→Nat→Nat→Sl→Int→Int→LV→OV:=
 Nat.rec (motive:=fun _=>Sl→Nat→LV→Nat→Nat→Sl→Int→Int→LV→OV) (fun _ _ _ _ _ _ _ _ _=>none) (fun _ ih0=>Yr pu n ih0) w
def Ahb (pu:Af) (n:Nat) (x0 x1 x2:Int) (s0 s1:Sl):OV:=
 (oo (pu 52 [(.agg ⟨[.int .i64 x0,.int .i64 x1,.int .i64 x2,Sl.v 1 s0]⟩),(Sl.v 1 (Sl.mk 1 0 (Aq (1*1) (Am 0 ([Sl.v 1 s1]:LV)))))]) none fun v0=>(oo (CQ v0) none fun l0=>(ll l0 none fun v1 l0=>(ll l0 none fun v2 l0=>(ll l0 (bb (isS (Pv v1)) (oo (Pv v1) none fun p0=>(oo (Bi .i64 v2) none fun x3=>(bb (nt (Bd x3 (0:Int))) (some (.tuple ⟨[(Sl.v 1 (Sl.mk 0 2 [])),.int .i64 x3]⟩)) (oo (AL (Db.cs p0) (((Db.off p0)+0)+3)) none fun v3=>(oo (Bj 1 v3) none fun s2=>(VU pu n n s1 (Db.off p0) (Db.cs p0) 0 0 s2 (Int.ofNat (Sl.n s2)) (0:Int) ([]:LV))))))) (bb (Xe v1) (oo (Bi .i64 v2) none fun x4=>(bb (nt (Bd x4 (0:Int))) (some (.tuple ⟨[(Sl.v 1 (Sl.mk 0 2 [])),.int .i64 x4]⟩)) none)) none)) fun _ _=>none)))))
def m19 (pu:Af) (n:Nat) (args:LV):OV:=
 (ll args none fun a0 args=>(ll args none fun a1 args=>(ll args (oo (Bt a0) none fun l0=>(ll l0 none fun v0 l0=>(ll l0 none fun v1 l0=>(ll l0 none fun v2 l0=>(ll l0 none fun v3 l0=>(ll l0 (oo (Bi .i64 v0) none fun x0=>(oo (Bi .i64 v1) none fun x1=>(oo (Bi .i64 v2) none fun x2=>(oo (Bj 1 v3) none fun s0=>(oo (Bj 1 a1) none fun s1=>(Ahb pu n x0 x1 x2 s0 s1)))))) fun _ _=>none)))))) fun _ _=>none)))
theorem Ahc (pu:Af) (n n0 c0:Nat) (q0:LV) {v:Value} (hm:VL pu n n0 c0 q0=some v):BN tt (Bb tabs isP pu (inl pu)) 2 XR (fr 43 [(8,sc 2 0 1 n0 c0)]) (hT 3 [(.cells Ay true false []),oC q0]) (Fin tt 2 [.tmp 4,.tmp 5] v):=by
 unfold VL at hm
 refine .then (.rK ?_)
 replace hm:=Ae hm;obtain⟨h0,hm⟩:=hm
 refine .ghs (fr 43 [(4,sc 2 0 1 n0 c0),(5,(zI (0:Int)))]) (hT 3 [(.cells Ay true false []),oC q0]) (.k [2] [false,false] [.tmp 4 false] [4,5] ⟨A7 h0,trivial⟩) ?_
 replace hm:=Ae hm;obtain⟨h1,hm⟩:=hm
 refine .ghs (Fr.puts (fr 43 [(4,sc 2 0 1 n0 c0),(5,(zI (0:Int)))]) [(4,(Sl.v 1 (Sl.mk n0 0 (Aq (n0*1) (Am 0 q0)))))]) (hT 3 [(.cells Ay true false []),.dead]) (.freezeC 2 4 1 (an (Nat.ble (0+n0*1) (len q0)) (Au Ah (Aq (n0*1) (Am 0 q0)))) (F1:=(Fr.puts (fr 43 [(4,sc 2 0 1 n0 c0),(5,(zI (0:Int)))]) [(4,(Sl.v 1 (Sl.mk n0 0 (Aq (n0*1) (Am 0 q0)))))])) (H1:=(hT 3 [(.cells Ay true false []),.dead])) (by kernel_rfl) (by kernel_rfl) h1 (E9.id _ _)) ?_
 refine .ret ?_
 exact AO (.tuple ⟨[(Sl.v 1 (Sl.mk n0 0 (Aq (n0*1) (Am 0 q0)))),(zI (0:Int))]⟩) hm
theorem r19 {call:A8} (pu:Af) (n:Nat) (hcall:call=Bb tabs isP pu (inl pu)) {args:LV} {v:Value} (hm:m19 pu n args=some v) (_:∀ x∈args,closed2 x=true):args.length≤43∧BN tt call 2 Pn (Fr.made 43 args) (Ao tabs) (Fin tt 2 [.tmp 4,.tmp 5] v):=by
 subst hcall
 unfold m19 at hm
 replace hm:=Ad hm;obtain⟨a0,args_0,rfl,hm⟩:=hm
 replace hm:=Ad hm;obtain⟨a1,args_1,rfl,hm⟩:=hm
 replace hm:=AC hm;obtain⟨rfl,hm⟩:=hm
 replace hm:=BG hm;obtain⟨l0,rfl,hm⟩:=hm
 replace hm:=Ad hm;obtain⟨v0,l5691_0,rfl,hm⟩:=hm
 replace hm:=Ad hm;obtain⟨v1,l5691_1,rfl,hm⟩:=hm
 replace hm:=Ad hm;obtain⟨v2,l5691_2,rfl,hm⟩:=hm
 replace hm:=Ad hm;obtain⟨v3,l5691_3,rfl,hm⟩:=hm
 replace hm:=AC hm;obtain⟨rfl,hm⟩:=hm
 replace hm:=Ai hm;obtain⟨x0,rfl,hm⟩:=hm
 replace hm:=Ai hm;obtain⟨x1,rfl,hm⟩:=hm
 replace hm:=Ai hm;obtain⟨x2,rfl,hm⟩:=hm
 replace hm:=Al hm;obtain⟨s0,rfl,hm⟩:=hm
 replace hm:=Al hm;obtain⟨s1,rfl,hm⟩:=hm
 unfold Ahb at hm
 refine⟨by simp,?_⟩
 refine .same (F':=(fr 43 [(0,(.agg ⟨[zI x0,zI x1,zI x2,Sl.v 1 s0]⟩)),(1,Sl.v 1 s1)])) (H':=(hT 2 [(.cells Ay true false [])])) (by kernel_rfl) (by kernel_rfl) ?_
 refine .then (.rK (.ghs (fr 43 [(1,Sl.v 1 s1),(2,(pt 2 0))]) (hT 3 [(.cells Ay true false []),(oC [zI x0,zI x1,zI x2,Sl.v 1 s0])]) (.k0 [false,false] [.tmp 2 false] [1,2]) ?_))
 refine .then ?_
 replace hm:=Ab hm;obtain⟨v4,h0,hm⟩:=hm
 replace hm:=Ch hm;obtain⟨l1,rfl,hm⟩:=hm
 replace hm:=Ad hm;obtain⟨v5,l5720_0,rfl,hm⟩:=hm
 replace hm:=Ad hm;obtain⟨v6,l5720_1,rfl,hm⟩:=hm
 replace hm:=AC hm;obtain⟨rfl,hm⟩:=hm
 replace hm:=Ag hm;rcases hm with⟨h1,hm⟩ | ⟨h1,hm⟩
 ·replace hm:=Ab hm;obtain⟨p0,h2,hm⟩:=hm
  obtain rfl:=F7 h2
  replace hm:=Ai hm;obtain⟨x3,rfl,hm⟩:=hm
  refine .reg (eC 3 (Hr tabs 1 (pu 52) [(.agg ⟨[zI x0,zI x1,zI x2,Sl.v 1 s0]⟩),sc 3 0 1 1 3] (hT 4 [(.cells Ay true false []),(oC [zI x0,zI x1,zI x2,Sl.v 1 s0]),(oC [Sl.v 1 s1])])) (KI (DZ (CV (z:=1) (v:=(.agg ⟨[zI x0,zI x1,zI x2,Sl.v 1 s0]⟩)) (H:=(hT 4 [(.cells Ay true false []),(oC [zI x0,zI x1,zI x2,Sl.v 1 s0]),(oC [Sl.v 1 s1])])) (by kernel_rfl) (by kernel_rfl) (by kernel_rfl)) (DZ (show ER 1 (sc 3 0 1 1 3) (hT 4 [(.cells Ay true false []),(oC [zI x0,zI x1,zI x2,Sl.v 1 s0]),(oC [Sl.v 1 s1])])=some ((Sl.v 1 (Sl.mk 1 0 (Aq (1*1) (Am 0 ([Sl.v 1 s1]:LV))))),(hT 4 [(.cells Ay true false []),(oC [zI x0,zI x1,zI x2,Sl.v 1 s0]),.dead])) from KH 3 0 1 1 3 ([Sl.v 1 s1]:LV) [] (by kernel_rfl) (by kernel_rfl) (by kernel_rfl)) Jt)) (by kernel_rfl) h0) (eE)) ?_
  refine .ghs (fr 43 [(1,Sl.v 1 s1),(6,(Cv (Db.off p0) (Db.cs p0))),(7,zI x3)]) (hT 2 [(.cells Ay true false [])]) (.k0 [false,false] [] [1,6,7]) ?_
  refine .then (.then (.rK (.ghs (fr 43 [(1,Sl.v 1 s1),(6,(Cv (Db.off p0) (Db.cs p0))),(7,zI x3),(19,(zB (nt (Bd x3 (0:Int)))))]) (hT 2 [(.cells Ay true false [])]) (.k0 [false,false] [] [1,6,7,19]) ?_)))
  replace hm:=Ag hm;rcases hm with⟨h3,hm⟩ | ⟨h3,hm⟩
  ·refine BB (nt (Bd x3 (0:Int))) h3 ?_
   refine .then (.rK (.ghs (fr 43 [(4,(.slice none 0 0)),(5,zI x3)]) (hT 2 [(.cells Ay true false [])]) (.k0 [false,false] [] [4,5]) ?_))
   refine .ghs (Fr.puts (fr 43 [(4,(.slice none 0 0)),(5,zI x3)]) [(4,(Sl.v 1 (Sl.mk 0 2 [])))]) (hT 2 [(.cells Ay true false [])]) (.freeze 2 4 1 (by kernel_rfl) (by kernel_rfl) (E9.id _ _)) ?_
   refine .ret ?_
   exact AO (.tuple ⟨[(Sl.v 1 (Sl.mk 0 2 [])),zI x3]⟩) hm
  ·refine BI (nt (Bd x3 (0:Int))) h3 ?_
   refine .skip (.ghs (fr 43 [(1,Sl.v 1 s1),(6,(Cv (Db.off p0) (Db.cs p0)))]) (hT 2 [(.cells Ay true false [])]) (.k0 [false,false] [] [1,6]) ?_)
   refine .then (.rK (.ghs (fr 43 [(1,Sl.v 1 s1),(6,(Cv (Db.off p0) (Db.cs p0))),(8,(.slice none 0 0))]) (hT 2 [(.cells Ay true false [])]) (.k0 [false,false] [] [1,6,8]) ?_))
   refine .join (v:=v) (fun y:Nat×Nat×LV=>((fr 43 [(8,(sc 2 0 1 y.1 y.2.1))]),(hT 3 [(.cells Ay true false []),(oC y.2.2)]))) (fun y=>VL pu n y.1 y.2.1 y.2.2) ?_ ?_
   ·rintro⟨n0,c0,q0⟩ hm
    exact Ahc pu n n0 c0 q0 hm
   ·refine .then ?_
    replace hm:=Sa hm;obtain⟨s2,h4,hm⟩:=hm
    refine .reg (eC 4 (keep (hT 2 [(.cells Ay true false [])]) (AL (Db.cs p0) (((Db.off p0)+0)+3))) (AZ h4) (eE)) ?_
    refine .ghs (fr 43 [(1,Sl.v 1 s1),(6,(Cv (Db.off p0) (Db.cs p0))),(8,(.slice none 0 0)),(25,Sl.v 1 s2),(26,(zI (Int.ofNat (Sl.n s2)))),(27,(zI (0:Int)))]) (hT 2 [(.cells Ay true false [])]) (.k0 [false,false] [] [1,6,8,25,26,27]) ?_
    refine .block (.loopM (v:=v) (fun y:Sl×Nat×LV×Nat×Nat×Sl×Int×Int×LV=>((fr 43 [(1,(Sl.v 1 y.1)),(6,(Cv y.2.1 y.2.2.1)),(8,(sc 2 0 1 y.2.2.2.1 y.2.2.2.2.1)),(25,(Sl.v 1 y.2.2.2.2.2.1)),(26,(zI y.2.2.2.2.2.2.1)),(27,(zI y.2.2.2.2.2.2.2.1))]),(hT 3 [(.cells Ay true false []),(oC y.2.2.2.2.2.2.2.2)]))) (fun w y=>VU pu n w y.1 y.2.1 y.2.2.1 y.2.2.2.1 y.2.2.2.2.1 y.2.2.2.2.2.1 y.2.2.2.2.2.2.1 y.2.2.2.2.2.2.2.1 y.2.2.2.2.2.2.2.2) n ⟨(s1,(Db.off p0),(Db.cs p0),0,0,s2,(Int.ofNat (Sl.n s2)),(0:Int),([]:LV)),hm,(.thaw 8 1 (by kernel_rfl) (.k0 [false,false] [.tmp 8 false] [1,6,8,25,26,27]))⟩ (fun _=>rfl) ?_)
    rintro w0 ⟨s3,n1,q1,n2,c1,s4,z0,z1,q2⟩ hm
    replace hm:Yr pu n (VU pu n w0) s3 n1 q1 n2 c1 s4 z0 z1 q2=some v:=hm
    unfold Yr at hm
    refine .then (.rK ?_)
    replace hm:=Ae hm;obtain⟨h5,hm⟩:=hm
    refine .ghs (fr 43 [(1,Sl.v 1 s3),(6,(Cv n1 q1)),(8,sc 2 0 1 n2 c1),(25,Sl.v 1 s4),(26,zI z0),(27,zI z1),(28,(zB (AY z1 z0)))]) (hT 3 [(.cells Ay true false []),oC q2]) (.k [2] [false,false] [.tmp 8 false] [1,6,8,25,26,27,28] ⟨A7 h5,trivial⟩) ?_
    refine .then ?_
    replace hm:=Ag hm;rcases hm with⟨h6,hm⟩ | ⟨h6,hm⟩
    ·refine BB (AY z1 z0) h6 ?_
     refine .skip (.ghs (fr 43 [(1,Sl.v 1 s3),(6,(Cv n1 q1)),(8,sc 2 0 1 n2 c1),(25,Sl.v 1 s4),(26,zI z0),(27,zI z1)]) (hT 3 [(.cells Ay true false []),oC q2]) (.k [2] [false,false] [.tmp 8 false] [1,6,8,25,26,27] ⟨A7 h5,trivial⟩) ?_)
     refine .join (v:=v) (fun y:Sl×Nat×LV×Nat×Nat×Sl×Int×Int×LV=>((fr 43 [(1,(Sl.v 1 y.1)),(6,(Cv y.2.1 y.2.2.1)),(8,(sc 2 0 1 y.2.2.2.1 y.2.2.2.2.1)),(25,(Sl.v 1 y.2.2.2.2.2.1)),(26,(zI y.2.2.2.2.2.2.1)),(27,(zI y.2.2.2.2.2.2.2.1))]),(hT 3 [(.cells Ay true false []),(oC y.2.2.2.2.2.2.2.2)]))) (fun y=>VM pu n (VU pu n w0) y.1 y.2.1 y.2.2.1 y.2.2.2.1 y.2.2.2.2.1 y.2.2.2.2.2.1 y.2.2.2.2.2.2.1 y.2.2.2.2.2.2.2.1 y.2.2.2.2.2.2.2.2) ?_ ?_
     ·rintro⟨s5,n3,q3,n4,c2,s6,z2,z3,q4⟩ hm
      unfold VM at hm
      refine .rK ?_
      replace hm:=Ae hm;obtain⟨h7,hm⟩:=hm
      exact⟨(s5,n3,q3,n4,c2,s6,z2,(Aj .i64 (Int.add z3 (1:Int))),q4),hm,(.k [2] [false,false] [.tmp 8 false] [1,6,8,25,26,27] ⟨A7 h7,trivial⟩)⟩
     ·refine .block (.then ?_)
      replace hm:=Ab hm;obtain⟨k1,h8,hm⟩:=hm
      obtain rfl:=AR h8
      replace hm:=Ae hm;obtain⟨h9,hm⟩:=hm
      replace hm:=Gs hm;obtain⟨x4,h10,hm⟩:=hm
      refine .reg (eC 1 (keep (hT 3 [(.cells Ay true false []),oC q2]) (bb (an (Nat.blt k1 (Sl.n s4)) true) (some (Cv (k1*1) (Sl.cs s4))) none)) (AX h9) (eD (keep (hT 3 [(.cells Ay true false []),oC q2]) (AL (Sl.cs s4) (k1*1))) (AZ h10) (eE))) ?_
      refine .ghs (fr 43 [(1,Sl.v 1 s3),(6,(Cv n1 q1)),(8,sc 2 0 1 n2 c1),(9,(zI (Int.ofNat k1))),(10,zI x4),(25,Sl.v 1 s4),(26,zI z0),(27,(zI (Int.ofNat k1)))]) (hT 3 [(.cells Ay true false []),oC q2]) (.k [2] [false,false] [.tmp 8 false] [1,6,8,9,10,25,26,27] ⟨A7 h5,trivial⟩) ?_
      refine .then ?_
      replace hm:=Gs hm;obtain⟨x5,h11,hm⟩:=hm
      refine .reg (eC 3 ((oo (pu 53 [(Cv n1 q1),Sl.v 1 s3,(zI (Int.ofNat k1))]) none fun v=>some (v,(hT 3 [(.cells Ay true false []),oC q2])))) (AB h11) (eE)) ?_
      refine .ghs (fr 43 [(1,Sl.v 1 s3),(6,(Cv n1 q1)),(8,sc 2 0 1 n2 c1),(10,zI x4),(25,Sl.v 1 s4),(26,zI z0),(27,(zI (Int.ofNat k1))),(36,(zB (Bd x5 (0:Int))))]) (hT 3 [(.cells Ay true false []),oC q2]) (.k [2] [false,false] [.tmp 8 false] [1,6,8,10,25,26,27,36] ⟨A7 h5,trivial⟩) ?_
      replace hm:=Ag hm;rcases hm with⟨h12,hm⟩ | ⟨h12,hm⟩
      ·refine BB (Bd x5 (0:Int)) h12 ?_
       replace hm:=Ae hm;obtain⟨h13,hm⟩:=hm
       refine .reg (eC 3 (Oc 1 8 n2 c1 1 2 q2 [zI x4] [] (hT 4 [(.cells Ay true false []),oC q2,(oC [zI x4])])) (I1 h13) (eE)) ?_
       replace hm:=Ae hm;obtain⟨h14,hm⟩:=hm
       exact⟨(s3,n1,q1,(n2+1),(d2 (n2+1)),s4,z0,(Int.ofNat k1),(Br (Am 0 q2) [zI x4])),hm,(.k [4] [false,false] [.tmp 8 false] [1,6,8,25,26,27] ⟨A7 h14,trivial⟩)⟩
      ·refine BI (Bd x5 (0:Int)) h12 ?_
       refine .skip ?_
       exact⟨(s3,n1,q1,n2,c1,s4,z0,(Int.ofNat k1),q2),hm,(.k [2] [false,false] [.tmp 8 false] [1,6,8,25,26,27] ⟨A7 h5,trivial⟩)⟩
    ·refine BI (AY z1 z0) h6 ?_
     refine .exit ?_
     exact⟨(n2,c1,q2),hm,(.k [2] [false,false] [.tmp 8 false] [8] ⟨A7 h5,trivial⟩)⟩
 ·replace hm:=Ae hm;obtain⟨h15,hm⟩:=hm
  obtain rfl:=Pi h15
  replace hm:=Ai hm;obtain⟨x6,rfl,hm⟩:=hm
  refine .reg (eC 3 (Hr tabs 1 (pu 52) [(.agg ⟨[zI x0,zI x1,zI x2,Sl.v 1 s0]⟩),sc 3 0 1 1 3] (hT 4 [(.cells Ay true false []),(oC [zI x0,zI x1,zI x2,Sl.v 1 s0]),(oC [Sl.v 1 s1])])) (KI (DZ (CV (z:=1) (v:=(.agg ⟨[zI x0,zI x1,zI x2,Sl.v 1 s0]⟩)) (H:=(hT 4 [(.cells Ay true false []),(oC [zI x0,zI x1,zI x2,Sl.v 1 s0]),(oC [Sl.v 1 s1])])) (by kernel_rfl) (by kernel_rfl) (by kernel_rfl)) (DZ (show ER 1 (sc 3 0 1 1 3) (hT 4 [(.cells Ay true false []),(oC [zI x0,zI x1,zI x2,Sl.v 1 s0]),(oC [Sl.v 1 s1])])=some ((Sl.v 1 (Sl.mk 1 0 (Aq (1*1) (Am 0 ([Sl.v 1 s1]:LV))))),(hT 4 [(.cells Ay true false []),(oC [zI x0,zI x1,zI x2,Sl.v 1 s0]),.dead])) from KH 3 0 1 1 3 ([Sl.v 1 s1]:LV) [] (by kernel_rfl) (by kernel_rfl) (by kernel_rfl)) Jt)) (by kernel_rfl) h0) (eE)) ?_
  refine .ghs (fr 43 [(1,Sl.v 1 s1),(6,(.pointer none)),(7,zI x6)]) (hT 2 [(.cells Ay true false [])]) (.k0 [false,false] [] [1,6,7]) ?_
  refine .then (.then (.rK (.ghs (fr 43 [(1,Sl.v 1 s1),(6,(.pointer none)),(7,zI x6),(19,(zB (nt (Bd x6 (0:Int)))))]) (hT 2 [(.cells Ay true false [])]) (.k0 [false,false] [] [1,6,7,19]) ?_)))
  replace hm:=Ag hm;rcases hm with⟨h16,hm⟩ | ⟨h16,hm⟩
  ·refine BB (nt (Bd x6 (0:Int))) h16 ?_
   refine .then (.rK (.ghs (fr 43 [(4,(.slice none 0 0)),(5,zI x6)]) (hT 2 [(.cells Ay true false [])]) (.k0 [false,false] [] [4,5]) ?_))
   refine .ghs (Fr.puts (fr 43 [(4,(.slice none 0 0)),(5,zI x6)]) [(4,(Sl.v 1 (Sl.mk 0 2 [])))]) (hT 2 [(.cells Ay true false [])]) (.freeze 2 4 1 (by kernel_rfl) (by kernel_rfl) (E9.id _ _)) ?_
   refine .ret ?_
   exact AO (.tuple ⟨[(Sl.v 1 (Sl.mk 0 2 [])),zI x6]⟩) hm
  ·refine BI (nt (Bd x6 (0:Int))) h16 ?_
   refine .skip (.ghs (fr 43 [(1,Sl.v 1 s1),(6,(.pointer none))]) (hT 2 [(.cells Ay true false [])]) (.k0 [false,false] [] [1,6]) ?_)
   refine .then (.rK (.ghs (fr 43 [(1,Sl.v 1 s1),(6,(.pointer none)),(8,(.slice none 0 0))]) (hT 2 [(.cells Ay true false [])]) (.k0 [false,false] [] [1,6,8]) ?_))
   refine .then (.then ?_)
   cases hm

def Ahd (pu:Af) (n:Nat) (x0:Int) (s0:Sl) (x1:Int):OV:=
 (oo (pu 54 [(.agg ⟨[.int .i64 x0,Sl.v 1 s0]⟩)]) none fun v0=>(oo (CQ v0) none fun l0=>(ll l0 none fun v1 l0=>(ll l0 none fun v2 l0=>(ll l0 (oo (Bt v1) none fun l1=>(ll l1 none fun v3 l1=>(ll l1 none fun v4 l1=>(ll l1 (oo (Bi .i64 v3) none fun x2=>(oo (Bi .u32 v4) none fun x3=>(oo (Bi .i64 v2) none fun x4=>(bb (nt (Bd x4 (0:Int))) (some (.tuple ⟨[(.agg ⟨[(.int .i64 (0:Int)),(Sl.v 1 (Sl.mk 0 2 []))]⟩),.int .i64 x4]⟩)) (oo (pu 56 [(.agg ⟨[.int .i64 x2,.int .u32 x3]⟩),.int .i64 x1]) none fun v5=>(oo (Bi .i64 v5) none fun x5=>(oo (pu 55 [(.agg ⟨[.int .i64 x2,.int .u32 x3]⟩),.int .i64 x5]) none fun v6=>(oo (Bt v6) none fun l2=>(ll l2 none fun v7 l2=>(ll l2 none fun v8 l2=>(ll l2 (oo (Bi .i64 v7) none fun x6=>(oo (Bi .u32 v8) none fun x7=>(oo (pu 57 [(.agg ⟨[.int .i64 x6,.int .u32 x7]⟩)]) none fun v9=>(oo (Bt v9) none fun l3=>(ll l3 none fun v10 l3=>(ll l3 none fun v11 l3=>(ll l3 (oo (Bi .i64 v10) none fun x8=>(oo (Bj 1 v11) none fun s1=>(some (.tuple ⟨[(.agg ⟨[.int .i64 x8,Sl.v 1 s1]⟩),(.int .i64 (0:Int))]⟩)))) fun _ _=>none))))))) fun _ _=>none))))))))))) fun _ _=>none)))) fun _ _=>none)))))
def m20 (pu:Af) (n:Nat) (args:LV):OV:=
 (ll args none fun a0 args=>(ll args none fun a1 args=>(ll args (oo (Bt a0) none fun l0=>(ll l0 none fun v0 l0=>(ll l0 none fun v1 l0=>(ll l0 (oo (Bi .i64 v0) none fun x0=>(oo (Bj 1 v1) none fun s0=>(oo (Bi .i64 a1) none fun x1=>(Ahd pu n x0 s0 x1)))) fun _ _=>none)))) fun _ _=>none)))
theorem r20 {call:A8} (pu:Af) (n:Nat) (hcall:call=Bb tabs isP pu (inl pu)) {args:LV} {v:Value} (hm:m20 pu n args=some v) (_:∀ x∈args,closed2 x=true):args.length≤23∧BN tt call 2 Po (Fr.made 23 args) (Ao tabs) (Fin tt 2 [.cell 4 41,.tmp 5] v):=by
 subst hcall
 unfold m20 at hm
 replace hm:=Ad hm;obtain⟨a0,args_0,rfl,hm⟩:=hm
 replace hm:=Ad hm;obtain⟨a1,args_1,rfl,hm⟩:=hm
 replace hm:=AC hm;obtain⟨rfl,hm⟩:=hm
 replace hm:=BG hm;obtain⟨l0,rfl,hm⟩:=hm
 replace hm:=Ad hm;obtain⟨v0,l6054_0,rfl,hm⟩:=hm
 replace hm:=Ad hm;obtain⟨v1,l6054_1,rfl,hm⟩:=hm
 replace hm:=AC hm;obtain⟨rfl,hm⟩:=hm
 replace hm:=Ai hm;obtain⟨x0,rfl,hm⟩:=hm
 replace hm:=Al hm;obtain⟨s0,rfl,hm⟩:=hm
 replace hm:=Ai hm;obtain⟨x1,rfl,hm⟩:=hm
 unfold Ahd at hm
 refine⟨by simp,?_⟩
 refine .same (F':=(fr 23 [(0,(.agg ⟨[zI x0,Sl.v 1 s0]⟩)),(1,zI x1)])) (H':=(hT 2 [(.cells Ay true false [])])) (by kernel_rfl) (by kernel_rfl) ?_
 refine .then (.rK (.ghs (fr 23 [(1,zI x1),(2,(pt 2 0)),(4,(pt 3 0))]) (hT 4 [(.cells Ay true false []),(oC [zI x0,Sl.v 1 s0]),(oC [(zI (0:Int)),(.slice none 0 0)])]) (.k0 [false,false] [.tmp 2 false,.tmp 4 false] [1,2,4]) ?_))
 refine .then ?_
 replace hm:=Ab hm;obtain⟨v2,h0,hm⟩:=hm
 replace hm:=Ch hm;obtain⟨l1,rfl,hm⟩:=hm
 replace hm:=Ad hm;obtain⟨v3,l6082_0,rfl,hm⟩:=hm
 replace hm:=Ad hm;obtain⟨v4,l6082_1,rfl,hm⟩:=hm
 replace hm:=AC hm;obtain⟨rfl,hm⟩:=hm
 replace hm:=BG hm;obtain⟨l2,rfl,hm⟩:=hm
 replace hm:=Ad hm;obtain⟨v5,l6086_0,rfl,hm⟩:=hm
 replace hm:=Ad hm;obtain⟨v6,l6086_1,rfl,hm⟩:=hm
 replace hm:=AC hm;obtain⟨rfl,hm⟩:=hm
 replace hm:=Ai hm;obtain⟨x2,rfl,hm⟩:=hm
 replace hm:=Ai hm;obtain⟨x3,rfl,hm⟩:=hm
 replace hm:=Ai hm;obtain⟨x4,rfl,hm⟩:=hm
 refine .reg (eC 1 ((oo (pu 54 [(.agg ⟨[zI x0,Sl.v 1 s0]⟩)]) none fun v=>some (v,(hT 4 [(.cells Ay true false []),(oC [zI x0,Sl.v 1 s0]),(oC [(zI (0:Int)),(.slice none 0 0)])])))) (AB h0) (eE)) ?_
 refine .ghs (fr 23 [(1,zI x1),(4,(pt 2 0)),(6,(pt 3 0)),(7,zI x4)]) (hT 4 [(.cells Ay true false []),(oC [(zI (0:Int)),(.slice none 0 0)]),(oC [zI x2,.int .u32 x3])]) (.k0 [false,false] [.tmp 4 false,.tmp 6 false] [1,4,6,7]) ?_
 refine .then (.then (.rK (.ghs (fr 23 [(1,zI x1),(4,(pt 2 0)),(6,(pt 3 0)),(7,zI x4),(14,(zB (nt (Bd x4 (0:Int)))))]) (hT 4 [(.cells Ay true false []),(oC [(zI (0:Int)),(.slice none 0 0)]),(oC [zI x2,.int .u32 x3])]) (.k0 [false,false] [.tmp 4 false,.tmp 6 false] [1,4,6,7,14]) ?_)))
 replace hm:=Ag hm;rcases hm with⟨h1,hm⟩ | ⟨h1,hm⟩
 ·refine BB (nt (Bd x4 (0:Int))) h1 ?_
  refine .then (.rK (.ghs (fr 23 [(4,(pt 2 0)),(5,zI x4)]) (hT 3 [(.cells Ay true false []),(oC [(zI (0:Int)),(.slice none 0 0)])]) (.k0 [false,false] [.tmp 4 false] [4,5]) ?_))
  refine .ret ?_
  exact Uc (.tuple ⟨[(.agg ⟨[(zI (0:Int)),(.slice none 0 0)]⟩),zI x4]⟩) (.tuple ⟨[(.agg ⟨[(zI (0:Int)),(Sl.v 1 (Sl.mk 0 2 []))]⟩),zI x4]⟩) (by kernel_rfl) (FU.tup (.cons (FU.agg (.cons (FU.refl _ _ _) (.cons (.weak (PG.nil 1 2)) (Mr.nil _)))) (.cons (FU.refl _ _ _) (Mr.nil _)))) (by kernel_rfl) hm
 ·refine BI (nt (Bd x4 (0:Int))) h1 ?_
  refine .skip (.ghs (fr 23 [(1,zI x1),(4,(pt 2 0)),(6,(pt 3 0))]) (hT 4 [(.cells Ay true false []),(oC [(zI (0:Int)),(.slice none 0 0)]),(oC [zI x2,.int .u32 x3])]) (.k0 [false,false] [.tmp 4 false,.tmp 6 false] [1,4,6]) ?_)
  refine .then ?_
  replace hm:=Gs hm;obtain⟨x5,h2,hm⟩:=hm
  replace hm:=Ab hm;obtain⟨v7,h3,hm⟩:=hm
  replace hm:=BG hm;obtain⟨l3,rfl,hm⟩:=hm
  replace hm:=Ad hm;obtain⟨v8,l6127_0,rfl,hm⟩:=hm
  replace hm:=Ad hm;obtain⟨v9,l6127_1,rfl,hm⟩:=hm
  replace hm:=AC hm;obtain⟨rfl,hm⟩:=hm
  replace hm:=Ai hm;obtain⟨x6,rfl,hm⟩:=hm
  replace hm:=Ai hm;obtain⟨x7,rfl,hm⟩:=hm
  replace hm:=Ab hm;obtain⟨v10,h4,hm⟩:=hm
  replace hm:=BG hm;obtain⟨l4,rfl,hm⟩:=hm
  replace hm:=Ad hm;obtain⟨v11,l6137_0,rfl,hm⟩:=hm
  replace hm:=Ad hm;obtain⟨v12,l6137_1,rfl,hm⟩:=hm
  replace hm:=AC hm;obtain⟨rfl,hm⟩:=hm
  replace hm:=Ai hm;obtain⟨x8,rfl,hm⟩:=hm
  replace hm:=Al hm;obtain⟨s1,rfl,hm⟩:=hm
  refine .reg (eC 3 ((oo (pu 56 [(.agg ⟨[zI x2,.int .u32 x3]⟩),zI x1]) none fun v=>some (v,(hT 4 [(.cells Ay true false []),(oC [(zI (0:Int)),(.slice none 0 0)]),(oC [zI x2,.int .u32 x3])])))) (AB h2) (eD ((oo (pu 55 [(.agg ⟨[zI x2,.int .u32 x3]⟩),zI x5]) none fun v=>some (v,(hT 4 [(.cells Ay true false []),(oC [(zI (0:Int)),(.slice none 0 0)]),(oC [zI x2,.int .u32 x3])])))) (AB h3) (eD ((oo (pu 57 [(.agg ⟨[zI x6,.int .u32 x7]⟩)]) none fun v=>some (v,(hT 4 [(.cells Ay true false []),(oC [(zI (0:Int)),(.slice none 0 0)]),(oC [zI x2,.int .u32 x3])])))) (AB h4) (eE)))) ?_
  refine .ghs (fr 23 [(4,(pt 2 0)),(5,(zI (0:Int)))]) (hT 3 [(.cells Ay true false []),(oC [zI x8,Sl.v 1 s1])]) (.k0 [false,false] [.tmp 4 false] [4,5]) ?_
  refine .ret ?_
  exact AO (.tuple ⟨[(.agg ⟨[zI x8,Sl.v 1 s1]⟩),(zI (0:Int))]⟩) hm

def Ahe (pu:Af) (n:Nat) (x0 x1 x2:Int) (s0 s1:Sl) (x3:Int):OV:=
 (oo (pu 52 [(.agg ⟨[.int .i64 x0,.int .i64 x1,.int .i64 x2,Sl.v 1 s0]⟩),(Sl.v 1 (Sl.mk 1 0 (Aq (1*1) (Am 0 ([Sl.v 1 s1]:LV)))))]) none fun v0=>(oo (CQ v0) none fun l0=>(ll l0 none fun v1 l0=>(ll l0 none fun v2 l0=>(ll l0 (bb (isS (Pv v1)) (oo (Pv v1) none fun p0=>(oo (Bi .i64 v2) none fun x4=>(bb (nt (Bd x4 (0:Int))) (some (.tuple ⟨[(Sl.v 1 (Sl.mk 0 2 [])),.int .i64 x4]⟩)) (oo (AL (Db.cs p0) (((Db.off p0)+0)+3)) none fun v3=>(oo (Bj 1 v3) none fun s2=>(oo (pu 58 [Sl.v 1 s2,.int .i64 x3]) none fun v4=>(oo (Bi .i64 v4) none fun x5=>(bb (AY x5 (0:Int)) (some (.tuple ⟨[(Sl.v 1 (Sl.mk 0 2 [])),(.int .i64 (2:Int))]⟩)) (oo (pu 59 [(Cv (Db.off p0) (Db.cs p0)),Sl.v 1 s1,.int .i64 x5]) none fun v5=>(oo (Bj 1 v5) none fun s3=>(some (.tuple ⟨[Sl.v 1 s3,(.int .i64 (0:Int))]⟩)))))))))))) (bb (Xe v1) (oo (Bi .i64 v2) none fun x6=>(bb (nt (Bd x6 (0:Int))) (some (.tuple ⟨[(Sl.v 1 (Sl.mk 0 2 [])),.int .i64 x6]⟩)) none)) none)) fun _ _=>none)))))
def m21 (pu:Af) (n:Nat) (args:LV):OV:=
 (ll args none fun a0 args=>(ll args none fun a1 args=>(ll args none fun a2 args=>(ll args (oo (Bt a0) none fun l0=>(ll l0 none fun v0 l0=>(ll l0 none fun v1 l0=>(ll l0 none fun v2 l0=>(ll l0 none fun v3 l0=>(ll l0 (oo (Bi .i64 v0) none fun x0=>(oo (Bi .i64 v1) none fun x1=>(oo (Bi .i64 v2) none fun x2=>(oo (Bj 1 v3) none fun s0=>(oo (Bj 1 a1) none fun s1=>(oo (Bi .i64 a2) none fun x3=>(Ahe pu n x0 x1 x2 s0 s1 x3))))))) fun _ _=>none)))))) fun _ _=>none))))
theorem r21 {call:A8} (pu:Af) (n:Nat) (hcall:call=Bb tabs isP pu (inl pu)) {args:LV} {v:Value} (hm:m21 pu n args=some v) (_:∀ x∈args,closed2 x=true):args.length≤34∧BN tt call 2 Pp (Fr.made 34 args) (Ao tabs) (Fin tt 2 [.tmp 6,.tmp 7] v):=by
 subst hcall
 unfold m21 at hm
 replace hm:=Ad hm;obtain⟨a0,args_0,rfl,hm⟩:=hm
 replace hm:=Ad hm;obtain⟨a1,args_1,rfl,hm⟩:=hm
 replace hm:=Ad hm;obtain⟨a2,args_2,rfl,hm⟩:=hm
 replace hm:=AC hm;obtain⟨rfl,hm⟩:=hm
 replace hm:=BG hm;obtain⟨l0,rfl,hm⟩:=hm
 replace hm:=Ad hm;obtain⟨v0,l6145_0,rfl,hm⟩:=hm
 replace hm:=Ad hm;obtain⟨v1,l6145_1,rfl,hm⟩:=hm
 replace hm:=Ad hm;obtain⟨v2,l6145_2,rfl,hm⟩:=hm
 replace hm:=Ad hm;obtain⟨v3,l6145_3,rfl,hm⟩:=hm
 replace hm:=AC hm;obtain⟨rfl,hm⟩:=hm
 replace hm:=Ai hm;obtain⟨x0,rfl,hm⟩:=hm
 replace hm:=Ai hm;obtain⟨x1,rfl,hm⟩:=hm
 replace hm:=Ai hm;obtain⟨x2,rfl,hm⟩:=hm
 replace hm:=Al hm;obtain⟨s0,rfl,hm⟩:=hm
 replace hm:=Al hm;obtain⟨s1,rfl,hm⟩:=hm
 replace hm:=Ai hm;obtain⟨x3,rfl,hm⟩:=hm
 unfold Ahe at hm
 refine⟨by simp,?_⟩
 refine .same (F':=(fr 34 [(0,(.agg ⟨[zI x0,zI x1,zI x2,Sl.v 1 s0]⟩)),(1,Sl.v 1 s1),(2,zI x3)])) (H':=(hT 2 [(.cells Ay true false [])])) (by kernel_rfl) (by kernel_rfl) ?_
 refine .then (.rK (.ghs (fr 34 [(1,Sl.v 1 s1),(2,zI x3),(3,(pt 2 0))]) (hT 3 [(.cells Ay true false []),(oC [zI x0,zI x1,zI x2,Sl.v 1 s0])]) (.k0 [false,false] [.tmp 3 false] [1,2,3]) ?_))
 refine .then ?_
 replace hm:=Ab hm;obtain⟨v4,h0,hm⟩:=hm
 replace hm:=Ch hm;obtain⟨l1,rfl,hm⟩:=hm
 replace hm:=Ad hm;obtain⟨v5,l6176_0,rfl,hm⟩:=hm
 replace hm:=Ad hm;obtain⟨v6,l6176_1,rfl,hm⟩:=hm
 replace hm:=AC hm;obtain⟨rfl,hm⟩:=hm
 replace hm:=Ag hm;rcases hm with⟨h1,hm⟩ | ⟨h1,hm⟩
 ·replace hm:=Ab hm;obtain⟨p0,h2,hm⟩:=hm
  obtain rfl:=F7 h2
  replace hm:=Ai hm;obtain⟨x4,rfl,hm⟩:=hm
  refine .reg (eC 3 (Hr tabs 1 (pu 52) [(.agg ⟨[zI x0,zI x1,zI x2,Sl.v 1 s0]⟩),sc 3 0 1 1 3] (hT 4 [(.cells Ay true false []),(oC [zI x0,zI x1,zI x2,Sl.v 1 s0]),(oC [Sl.v 1 s1])])) (KI (DZ (CV (z:=1) (v:=(.agg ⟨[zI x0,zI x1,zI x2,Sl.v 1 s0]⟩)) (H:=(hT 4 [(.cells Ay true false []),(oC [zI x0,zI x1,zI x2,Sl.v 1 s0]),(oC [Sl.v 1 s1])])) (by kernel_rfl) (by kernel_rfl) (by kernel_rfl)) (DZ (show ER 1 (sc 3 0 1 1 3) (hT 4 [(.cells Ay true false []),(oC [zI x0,zI x1,zI x2,Sl.v 1 s0]),(oC [Sl.v 1 s1])])=some ((Sl.v 1 (Sl.mk 1 0 (Aq (1*1) (Am 0 ([Sl.v 1 s1]:LV))))),(hT 4 [(.cells Ay true false []),(oC [zI x0,zI x1,zI x2,Sl.v 1 s0]),.dead])) from KH 3 0 1 1 3 ([Sl.v 1 s1]:LV) [] (by kernel_rfl) (by kernel_rfl) (by kernel_rfl)) Jt)) (by kernel_rfl) h0) (eE)) ?_
  refine .ghs (fr 34 [(1,Sl.v 1 s1),(2,zI x3),(8,(Cv (Db.off p0) (Db.cs p0))),(9,zI x4)]) (hT 2 [(.cells Ay true false [])]) (.k0 [false,false] [] [1,2,8,9]) ?_
  refine .then (.then (.rK (.ghs (fr 34 [(1,Sl.v 1 s1),(2,zI x3),(8,(Cv (Db.off p0) (Db.cs p0))),(9,zI x4),(19,(zB (nt (Bd x4 (0:Int)))))]) (hT 2 [(.cells Ay true false [])]) (.k0 [false,false] [] [1,2,8,9,19]) ?_)))
  replace hm:=Ag hm;rcases hm with⟨h3,hm⟩ | ⟨h3,hm⟩
  ·refine BB (nt (Bd x4 (0:Int))) h3 ?_
   refine .then (.rK (.ghs (fr 34 [(6,(.slice none 0 0)),(7,zI x4)]) (hT 2 [(.cells Ay true false [])]) (.k0 [false,false] [] [6,7]) ?_))
   refine .ghs (Fr.puts (fr 34 [(6,(.slice none 0 0)),(7,zI x4)]) [(6,(Sl.v 1 (Sl.mk 0 2 [])))]) (hT 2 [(.cells Ay true false [])]) (.freeze 2 6 1 (by kernel_rfl) (by kernel_rfl) (E9.id _ _)) ?_
   refine .ret ?_
   exact AO (.tuple ⟨[(Sl.v 1 (Sl.mk 0 2 [])),zI x4]⟩) hm
  ·refine BI (nt (Bd x4 (0:Int))) h3 ?_
   refine .skip (.ghs (fr 34 [(1,Sl.v 1 s1),(2,zI x3),(8,(Cv (Db.off p0) (Db.cs p0)))]) (hT 2 [(.cells Ay true false [])]) (.k0 [false,false] [] [1,2,8]) ?_)
   refine .then ?_
   replace hm:=Sa hm;obtain⟨s2,h4,hm⟩:=hm
   replace hm:=Gs hm;obtain⟨x5,h5,hm⟩:=hm
   refine .reg (eC 4 (keep (hT 2 [(.cells Ay true false [])]) (AL (Db.cs p0) (((Db.off p0)+0)+3))) (AZ h4) (eC 1 ((oo (pu 58 [Sl.v 1 s2,zI x3]) none fun v=>some (v,(hT 2 [(.cells Ay true false [])])))) (AB h5) (eE))) ?_
   refine .ghs (fr 34 [(1,Sl.v 1 s1),(8,(Cv (Db.off p0) (Db.cs p0))),(10,zI x5)]) (hT 2 [(.cells Ay true false [])]) (.k0 [false,false] [] [1,8,10]) ?_
   refine .then (.then (.rK (.ghs (fr 34 [(1,Sl.v 1 s1),(8,(Cv (Db.off p0) (Db.cs p0))),(10,zI x5),(29,(zB (AY x5 (0:Int))))]) (hT 2 [(.cells Ay true false [])]) (.k0 [false,false] [] [1,8,10,29]) ?_)))
   replace hm:=Ag hm;rcases hm with⟨h6,hm⟩ | ⟨h6,hm⟩
   ·refine BB (AY x5 (0:Int)) h6 ?_
    refine .then (.rK (.ghs (fr 34 [(6,(.slice none 0 0)),(7,(zI (2:Int)))]) (hT 2 [(.cells Ay true false [])]) (.k0 [false,false] [] [6,7]) ?_))
    refine .ghs (Fr.puts (fr 34 [(6,(.slice none 0 0)),(7,(zI (2:Int)))]) [(6,(Sl.v 1 (Sl.mk 0 2 [])))]) (hT 2 [(.cells Ay true false [])]) (.freeze 2 6 1 (by kernel_rfl) (by kernel_rfl) (E9.id _ _)) ?_
    refine .ret ?_
    exact AO (.tuple ⟨[(Sl.v 1 (Sl.mk 0 2 [])),(zI (2:Int))]⟩) hm
   ·refine BI (AY x5 (0:Int)) h6 ?_
    refine .skip (.ghs (fr 34 [(1,Sl.v 1 s1),(8,(Cv (Db.off p0) (Db.cs p0))),(10,zI x5)]) (hT 2 [(.cells Ay true false [])]) (.k0 [false,false] [] [1,8,10]) ?_)
    refine .then ?_
    replace hm:=Sa hm;obtain⟨s3,h7,hm⟩:=hm
    refine .reg (eC 3 ((oo (pu 59 [(Cv (Db.off p0) (Db.cs p0)),Sl.v 1 s1,zI x5]) none fun v=>some (v,(hT 2 [(.cells Ay true false [])])))) (AB h7) (eE)) ?_
    refine .ghs (fr 34 [(6,Sl.v 1 s3),(7,(zI (0:Int)))]) (hT 2 [(.cells Ay true false [])]) (.k0 [false,false] [] [6,7]) ?_
    refine .ret ?_
    exact AO (.tuple ⟨[Sl.v 1 s3,(zI (0:Int))]⟩) hm
 ·replace hm:=Ae hm;obtain⟨h8,hm⟩:=hm
  obtain rfl:=Pi h8
  replace hm:=Ai hm;obtain⟨x6,rfl,hm⟩:=hm
  refine .reg (eC 3 (Hr tabs 1 (pu 52) [(.agg ⟨[zI x0,zI x1,zI x2,Sl.v 1 s0]⟩),sc 3 0 1 1 3] (hT 4 [(.cells Ay true false []),(oC [zI x0,zI x1,zI x2,Sl.v 1 s0]),(oC [Sl.v 1 s1])])) (KI (DZ (CV (z:=1) (v:=(.agg ⟨[zI x0,zI x1,zI x2,Sl.v 1 s0]⟩)) (H:=(hT 4 [(.cells Ay true false []),(oC [zI x0,zI x1,zI x2,Sl.v 1 s0]),(oC [Sl.v 1 s1])])) (by kernel_rfl) (by kernel_rfl) (by kernel_rfl)) (DZ (show ER 1 (sc 3 0 1 1 3) (hT 4 [(.cells Ay true false []),(oC [zI x0,zI x1,zI x2,Sl.v 1 s0]),(oC [Sl.v 1 s1])])=some ((Sl.v 1 (Sl.mk 1 0 (Aq (1*1) (Am 0 ([Sl.v 1 s1]:LV))))),(hT 4 [(.cells Ay true false []),(oC [zI x0,zI x1,zI x2,Sl.v 1 s0]),.dead])) from KH 3 0 1 1 3 ([Sl.v 1 s1]:LV) [] (by kernel_rfl) (by kernel_rfl) (by kernel_rfl)) Jt)) (by kernel_rfl) h0) (eE)) ?_
  refine .ghs (fr 34 [(1,Sl.v 1 s1),(2,zI x3),(8,(.pointer none)),(9,zI x6)]) (hT 2 [(.cells Ay true false [])]) (.k0 [false,false] [] [1,2,8,9]) ?_
  refine .then (.then (.rK (.ghs (fr 34 [(1,Sl.v 1 s1),(2,zI x3),(8,(.pointer none)),(9,zI x6),(19,(zB (nt (Bd x6 (0:Int)))))]) (hT 2 [(.cells Ay true false [])]) (.k0 [false,false] [] [1,2,8,9,19]) ?_)))
  replace hm:=Ag hm;rcases hm with⟨h9,hm⟩ | ⟨h9,hm⟩
  ·refine BB (nt (Bd x6 (0:Int))) h9 ?_
   refine .then (.rK (.ghs (fr 34 [(6,(.slice none 0 0)),(7,zI x6)]) (hT 2 [(.cells Ay true false [])]) (.k0 [false,false] [] [6,7]) ?_))
   refine .ghs (Fr.puts (fr 34 [(6,(.slice none 0 0)),(7,zI x6)]) [(6,(Sl.v 1 (Sl.mk 0 2 [])))]) (hT 2 [(.cells Ay true false [])]) (.freeze 2 6 1 (by kernel_rfl) (by kernel_rfl) (E9.id _ _)) ?_
   refine .ret ?_
   exact AO (.tuple ⟨[(Sl.v 1 (Sl.mk 0 2 [])),zI x6]⟩) hm
  ·refine BI (nt (Bd x6 (0:Int))) h9 ?_
   refine .skip (.ghs (fr 34 [(1,Sl.v 1 s1),(2,zI x3),(8,(.pointer none))]) (hT 2 [(.cells Ay true false [])]) (.k0 [false,false] [] [1,2,8]) ?_)
   refine .then ?_
   cases hm
end
end Go.TpEM
