/- Made from wip. -/
import Derived.Test.YtflonlkiajhhjaaGreatDoorTpEMod0x

set_option maxRecDepth 100000
set_option maxHeartbeats 20000000
set_option linter.unusedVariables false
namespace Go.TpEM
open Go.Sp Go.TpE
noncomputable section
def Wm (pu:Af) (n:Nat):OV:=
 (some (.int .i64 (-1:Int)))
def Zt (pu:Af) (n:Nat) (ih0:Sl→Int→Int→Int→OV) (s0:Sl) (z0 z1 z2:Int):OV:=
 (bb (AY z2 z1) (oo (EA z2) none fun k1=>(bb (an (Nat.blt k1 (Sl.n s0)) true) (oo (AL (Sl.cs s0) (k1*1)) none fun v0=>(oo (Bi .i64 v0) none fun x0=>(bb (Bd z0 x0) (some (.int .i64 (Int.ofNat k1))) (ih0 s0 z0 z1 (Aj .i64 (Int.add (Int.ofNat k1) (1:Int))))))) none)) (Wm pu n))
def Zu (pu:Af) (n w:Nat):Sl→Int→Int→Int→OV:=
 Nat.rec (motive:=fun _=>Sl→Int→Int→Int→OV) (fun _ _ _ _=>none) (fun _ ih0=>Zt pu n ih0) w
def Ahs (pu:Af) (n:Nat) (s0:Sl) (x0:Int):OV:=
 (Zu pu n n s0 x0 (Int.ofNat (Sl.n s0)) (0:Int))
def m58 (pu:Af) (n:Nat) (args:LV):OV:=
 (ll args none fun a0 args=>(ll args none fun a1 args=>(ll args (oo (Bj 1 a0) none fun s0=>(oo (Bi .i64 a1) none fun x0=>(Ahs pu n s0 x0))) fun _ _=>none)))
theorem Aht (pu:Af) (n:Nat) {v:Value} (hm:Wm pu n=some v):BN tt (Bb tabs isP pu (inl pu)) 2 X3 (fr 19 []) (hT 2 [(.cells Ay true false [])]) (Fin tt 2 [.tmp 4] v):=by
 unfold Wm at hm
 refine .then (.rK (.ghs (fr 19 [(4,(zI (-1:Int)))]) (hT 2 [(.cells Ay true false [])]) (.k0 [false,false] [] [4]) ?_))
 refine .ret ?_
 exact AO (zI (-1:Int)) hm
theorem r58 {call:A8} (pu:Af) (n:Nat) (hcall:call=Bb tabs isP pu (inl pu)) {args:LV} {v:Value} (hm:m58 pu n args=some v) (_:∀ x∈args,closed2 x=true):args.length≤19∧BN tt call 2 PL (Fr.made 19 args) (Ao tabs) (Fin tt 2 [.tmp 4] v):=by
 subst hcall
 unfold m58 at hm
 replace hm:=Ad hm;obtain⟨a0,args_0,rfl,hm⟩:=hm
 replace hm:=Ad hm;obtain⟨a1,args_1,rfl,hm⟩:=hm
 replace hm:=AC hm;obtain⟨rfl,hm⟩:=hm
 replace hm:=Al hm;obtain⟨s0,rfl,hm⟩:=hm
 replace hm:=Ai hm;obtain⟨x0,rfl,hm⟩:=hm
 unfold Ahs at hm
 refine⟨by simp,?_⟩
 refine .same (F':=(fr 19 [(0,Sl.v 1 s0),(1,zI x0)])) (H':=(hT 2 [(.cells Ay true false [])])) (by kernel_rfl) (by kernel_rfl) ?_
 refine .then (.rK (.ghs (fr 19 [(0,Sl.v 1 s0),(1,zI x0)]) (hT 2 [(.cells Ay true false [])]) (.k0 [false,false] [] [0,1]) ?_))
 refine .join (v:=v) (fun y:Unit=>((fr 19 []),(hT 2 [(.cells Ay true false [])]))) (fun y=>Wm pu n) ?_ ?_
 ·rintro _ hm
  exact Aht pu n hm
 ·refine .then (.rK (.ghs (fr 19 [(0,Sl.v 1 s0),(1,zI x0),(7,(zI (Int.ofNat (Sl.n s0)))),(8,(zI (0:Int)))]) (hT 2 [(.cells Ay true false [])]) (.k0 [false,false] [] [0,1,7,8]) ?_))
  refine .block (.loopM (v:=v) (fun y:Sl×Int×Int×Int=>((fr 19 [(0,(Sl.v 1 y.1)),(1,(zI y.2.1)),(7,(zI y.2.2.1)),(8,(zI y.2.2.2))]),(hT 2 [(.cells Ay true false [])]))) (fun w y=>Zu pu n w y.1 y.2.1 y.2.2.1 y.2.2.2) n ⟨(s0,x0,(Int.ofNat (Sl.n s0)),(0:Int)),hm,(.k0 [false,false] [] [0,1,7,8])⟩ (fun _=>rfl) ?_)
  rintro w0 ⟨s1,z0,z1,z2⟩ hm
  replace hm:Zt pu n (Zu pu n w0) s1 z0 z1 z2=some v:=hm
  unfold Zt at hm
  refine .then (.rK (.ghs (fr 19 [(0,Sl.v 1 s1),(1,zI z0),(7,zI z1),(8,zI z2),(9,(zB (AY z2 z1)))]) (hT 2 [(.cells Ay true false [])]) (.k0 [false,false] [] [0,1,7,8,9]) ?_))
  refine .then ?_
  replace hm:=Ag hm;rcases hm with⟨h0,hm⟩ | ⟨h0,hm⟩
  ·refine BB (AY z2 z1) h0 ?_
   refine .skip (.ghs (fr 19 [(0,Sl.v 1 s1),(1,zI z0),(7,zI z1),(8,zI z2)]) (hT 2 [(.cells Ay true false [])]) (.k0 [false,false] [] [0,1,7,8]) ?_)
   refine .then (.block (.then (.rK (.ghs (fr 19 [(0,Sl.v 1 s1),(1,zI z0),(5,zI z2),(7,zI z1),(8,zI z2)]) (hT 2 [(.cells Ay true false [])]) (.k0 [false,false] [] [0,1,5,7,8]) ?_))))
   refine .then ?_
   replace hm:=Ab hm;obtain⟨k1,h1,hm⟩:=hm
   obtain rfl:=AR h1
   replace hm:=Ae hm;obtain⟨h2,hm⟩:=hm
   replace hm:=Gs hm;obtain⟨x1,h3,hm⟩:=hm
   refine .reg (eC 3 (keep (hT 2 [(.cells Ay true false [])]) (bb (an (Nat.blt k1 (Sl.n s1)) true) (some (Cv (k1*1) (Sl.cs s1))) none)) (AX h2) (eD (keep (hT 2 [(.cells Ay true false [])]) (AL (Sl.cs s1) (k1*1))) (AZ h3) (eE))) ?_
   refine .ghs (fr 19 [(0,Sl.v 1 s1),(1,zI z0),(5,(zI (Int.ofNat k1))),(7,zI z1),(8,(zI (Int.ofNat k1))),(16,(zB (Bd z0 x1)))]) (hT 2 [(.cells Ay true false [])]) (.k0 [false,false] [] [0,1,5,7,8,16]) ?_
   replace hm:=Ag hm;rcases hm with⟨h4,hm⟩ | ⟨h4,hm⟩
   ·refine BB (Bd z0 x1) h4 ?_
    refine .then (.rK (.ghs (fr 19 [(4,(zI (Int.ofNat k1)))]) (hT 2 [(.cells Ay true false [])]) (.k0 [false,false] [] [4]) ?_))
    refine .ret ?_
    exact AO (zI (Int.ofNat k1)) hm
   ·refine BI (Bd z0 x1) h4 ?_
    refine .skip (.ghs (fr 19 [(0,Sl.v 1 s1),(1,zI z0),(7,zI z1),(8,(zI (Int.ofNat k1)))]) (hT 2 [(.cells Ay true false [])]) (.k0 [false,false] [] [0,1,7,8]) ?_)
    refine .rK ?_
    exact⟨(s1,z0,z1,(Aj .i64 (Int.add (Int.ofNat k1) (1:Int)))),hm,(.k0 [false,false] [] [0,1,7,8])⟩
  ·refine BI (AY z2 z1) h0 ?_
   refine .exit ?_
   exact⟨(),hm,(.k0 [false,false] [] [])⟩
def Wn (pu:Af) (n n0 c0:Nat) (q0:LV):OV:=
 (bb (Au Ah q0) (bb (an (Nat.ble (0+n0*1) (len q0)) (Au Ah (Aq (n0*1) (Am 0 q0)))) (some (Sl.v 1 (Sl.mk n0 0 (Aq (n0*1) (Am 0 q0))))) none) none)
def Zv (pu:Af) (n:Nat) (ih0:Sl→Nat→Nat→Sl→Int→Int→LV→OV) (s0:Sl) (n0 c0:Nat) (s1:Sl) (z0 z1:Int) (q0:LV):OV:=
 (bb (Au Ah q0) (bb (AY z1 z0) (oo (EA z1) none fun k1=>(bb (an (Nat.blt k1 (Sl.n s1)) true) (oo (AL (Sl.cs s1) (k1*1)) none fun v0=>(oo (Bi .i64 v0) none fun x0=>(oo (EA x0) none fun k2=>(bb (an (Nat.blt k2 (Sl.n s0)) true) (oo (AL (Sl.cs s0) (k2*1)) none fun v1=>(oo (Bi .i64 v1) none fun x1=>(bb (an (Nat.blt k1 n0) true) (bb (an (Nat.ble ((0+k1*1)+1) (len q0)) true) (bb (Au Ah (BM ([.int .i64 x1]:LV) (0+k1*1) q0)) (ih0 s0 n0 c0 s1 z0 (Aj .i64 (Int.add (Int.ofNat k1) (1:Int))) (BM ([.int .i64 x1]:LV) (0+k1*1) q0)) none) none) none))) none)))) none)) (Wn pu n n0 c0 q0)) none)
def Zw (pu:Af) (n w:Nat):Sl→Nat→Nat→Sl→Int→Int→LV→OV:=
 Nat.rec (motive:=fun _=>Sl→Nat→Nat→Sl→Int→Int→LV→OV) (fun _ _ _ _ _ _ _=>none) (fun _ ih0=>Zv pu n ih0) w
def Ahu (pu:Af) (n:Nat) (p0:Db) (s0:Sl) (x0:Int):OV:=
 (bb (an (Nat.ble (Sl.n s0) (Sl.n s0)) (an (Nat.ble ((Sl.n s0)*8) 1099511627776) (an (Nat.ble (Sl.n s0) 1099511627776) true))) (bb (Au Ah (AF ([(.int .i64 (0:Int))]:LV) (Sl.n s0))) (oo (AL (Db.cs p0) ((Db.off p0)+4)) none fun v0=>(oo (Bj 1 v0) none fun s1=>(oo (EA x0) none fun k1=>(bb (an (Nat.blt k1 (Sl.n s1)) true) (oo (AL (Sl.cs s1) (k1*1)) none fun v1=>(oo (Bj 1 v1) none fun s2=>(Zw pu n n s0 (Sl.n s0) (2*(Sl.n s0)+bb true 1 0) s2 (Int.ofNat (Sl.n s2)) (0:Int) (AF ([(.int .i64 (0:Int))]:LV) (Sl.n s0))))) none)))) none) none)
def m59 (pu:Af) (n:Nat) (args:LV):OV:=
 (ll args none fun a0 args=>(ll args none fun a1 args=>(ll args none fun a2 args=>(ll args (oo (Pv a0) none fun p0=>(oo (Bj 1 a1) none fun s0=>(oo (Bi .i64 a2) none fun x0=>(Ahu pu n p0 s0 x0)))) fun _ _=>none))))
theorem Ahv (pu:Af) (n n0 c0:Nat) (q0:LV) {v:Value} (hm:Wn pu n n0 c0 q0=some v):BN tt (Bb tabs isP pu (inl pu)) 2 X4 (fr 35 [(7,sc 2 0 1 n0 c0)]) (hT 3 [(.cells Ay true false []),oC q0]) (Fin tt 2 [.tmp 6] v):=by
 unfold Wn at hm
 refine .then (.rK ?_)
 replace hm:=Ae hm;obtain⟨h0,hm⟩:=hm
 refine .ghs (fr 35 [(6,sc 2 0 1 n0 c0)]) (hT 3 [(.cells Ay true false []),oC q0]) (.k [2] [false,false] [.tmp 6 false] [6] ⟨A7 h0,trivial⟩) ?_
 replace hm:=Ae hm;obtain⟨h1,hm⟩:=hm
 refine .ghs (Fr.puts (fr 35 [(6,sc 2 0 1 n0 c0)]) [(6,(Sl.v 1 (Sl.mk n0 0 (Aq (n0*1) (Am 0 q0)))))]) (hT 3 [(.cells Ay true false []),.dead]) (.freezeC 2 6 1 (an (Nat.ble (0+n0*1) (len q0)) (Au Ah (Aq (n0*1) (Am 0 q0)))) (F1:=(Fr.puts (fr 35 [(6,sc 2 0 1 n0 c0)]) [(6,(Sl.v 1 (Sl.mk n0 0 (Aq (n0*1) (Am 0 q0)))))])) (H1:=(hT 3 [(.cells Ay true false []),.dead])) (by kernel_rfl) (by kernel_rfl) h1 (E9.id _ _)) ?_
 refine .ret ?_
 exact AO (Sl.v 1 (Sl.mk n0 0 (Aq (n0*1) (Am 0 q0)))) hm
theorem r59 {call:A8} (pu:Af) (n:Nat) (hcall:call=Bb tabs isP pu (inl pu)) {args:LV} {v:Value} (hm:m59 pu n args=some v) (_:∀ x∈args,closed2 x=true):args.length≤35∧BN tt call 2 PM (Fr.made 35 args) (Ao tabs) (Fin tt 2 [.tmp 6] v):=by
 subst hcall
 unfold m59 at hm
 replace hm:=Ad hm;obtain⟨a0,args_0,rfl,hm⟩:=hm
 replace hm:=Ad hm;obtain⟨a1,args_1,rfl,hm⟩:=hm
 replace hm:=Ad hm;obtain⟨a2,args_2,rfl,hm⟩:=hm
 replace hm:=AC hm;obtain⟨rfl,hm⟩:=hm
 replace hm:=Ab hm;obtain⟨p0,h0,hm⟩:=hm
 obtain rfl:=F7 h0
 replace hm:=Al hm;obtain⟨s0,rfl,hm⟩:=hm
 replace hm:=Ai hm;obtain⟨x0,rfl,hm⟩:=hm
 unfold Ahu at hm
 refine⟨by simp,?_⟩
 refine .same (F':=(fr 35 [(0,(Cv (Db.off p0) (Db.cs p0))),(1,Sl.v 1 s0),(2,zI x0)])) (H':=(hT 2 [(.cells Ay true false [])])) (by kernel_rfl) (by kernel_rfl) ?_
 refine .then (.rK (.ghs (fr 35 [(0,(Cv (Db.off p0) (Db.cs p0))),(1,Sl.v 1 s0),(2,zI x0)]) (hT 2 [(.cells Ay true false [])]) (.k0 [false,false] [] [0,1,2]) ?_))
 refine .then ?_
 replace hm:=Ae hm;obtain⟨h1,hm⟩:=hm
 refine .reg (eC 2 (bb (an (Nat.ble (Sl.n s0) (Sl.n s0)) (an (Nat.ble ((Sl.n s0)*8) 1099511627776) (an (Nat.ble (Sl.n s0) 1099511627776) true))) (some ((sc 2 0 1 (Sl.n s0) (2*(Sl.n s0)+bb true 1 0)),(hT 3 [(.cells Ay true false []),(oC (AF ([(zI (0:Int))]:LV) (Sl.n s0)))]))) none) (kH h1) (eE)) ?_
 replace hm:=Ae hm;obtain⟨h2,hm⟩:=hm
 refine .ghs (fr 35 [(0,(Cv (Db.off p0) (Db.cs p0))),(1,Sl.v 1 s0),(2,zI x0),(7,(sc 2 0 1 (Sl.n s0) (2*(Sl.n s0)+bb true 1 0)))]) (hT 3 [(.cells Ay true false []),(oC (AF ([(zI (0:Int))]:LV) (Sl.n s0)))]) (.k [2] [false,false] [.tmp 7 false] [0,1,2,7] ⟨A7 h2,trivial⟩) ?_
 refine .join (v:=v) (fun y:Nat×Nat×LV=>((fr 35 [(7,(sc 2 0 1 y.1 y.2.1))]),(hT 3 [(.cells Ay true false []),(oC y.2.2)]))) (fun y=>Wn pu n y.1 y.2.1 y.2.2) ?_ ?_
 ·rintro⟨n0,c0,q0⟩ hm
  exact Ahv pu n n0 c0 q0 hm
 ·refine .then ?_
  replace hm:=Sa hm;obtain⟨s1,h3,hm⟩:=hm
  replace hm:=Ab hm;obtain⟨k1,h4,hm⟩:=hm
  obtain rfl:=AR h4
  replace hm:=Ae hm;obtain⟨h5,hm⟩:=hm
  replace hm:=Sa hm;obtain⟨s2,h6,hm⟩:=hm
  refine .reg (eC 3 (keep (hT 3 [(.cells Ay true false []),(oC (AF ([(zI (0:Int))]:LV) (Sl.n s0)))]) (AL (Db.cs p0) ((Db.off p0)+4))) (AZ h3) (eC 1 (keep (hT 3 [(.cells Ay true false []),(oC (AF ([(zI (0:Int))]:LV) (Sl.n s0)))]) (bb (an (Nat.blt k1 (Sl.n s1)) true) (some (Cv (k1*1) (Sl.cs s1))) none)) (AX h5) (eD (keep (hT 3 [(.cells Ay true false []),(oC (AF ([(zI (0:Int))]:LV) (Sl.n s0)))]) (AL (Sl.cs s1) (k1*1))) (AZ h6) (eE)))) ?_
  refine .ghs (fr 35 [(1,Sl.v 1 s0),(7,(sc 2 0 1 (Sl.n s0) (2*(Sl.n s0)+bb true 1 0))),(19,Sl.v 1 s2),(20,(zI (Int.ofNat (Sl.n s2)))),(21,(zI (0:Int)))]) (hT 3 [(.cells Ay true false []),(oC (AF ([(zI (0:Int))]:LV) (Sl.n s0)))]) (.k [2] [false,false] [.tmp 7 false] [1,7,19,20,21] ⟨A7 h2,trivial⟩) ?_
  refine .block (.loopM (v:=v) (fun y:Sl×Nat×Nat×Sl×Int×Int×LV=>((fr 35 [(1,(Sl.v 1 y.1)),(7,(sc 2 0 1 y.2.1 y.2.2.1)),(19,(Sl.v 1 y.2.2.2.1)),(20,(zI y.2.2.2.2.1)),(21,(zI y.2.2.2.2.2.1))]),(hT 3 [(.cells Ay true false []),(oC y.2.2.2.2.2.2)]))) (fun w y=>Zw pu n w y.1 y.2.1 y.2.2.1 y.2.2.2.1 y.2.2.2.2.1 y.2.2.2.2.2.1 y.2.2.2.2.2.2) n ⟨(s0,(Sl.n s0),(2*(Sl.n s0)+bb true 1 0),s2,(Int.ofNat (Sl.n s2)),(0:Int),(AF ([(zI (0:Int))]:LV) (Sl.n s0))),hm,(.k [2] [false,false] [.tmp 7 false] [1,7,19,20,21] ⟨A7 h2,trivial⟩)⟩ (fun _=>rfl) ?_)
  rintro w0 ⟨s3,n1,c1,s4,z0,z1,q1⟩ hm
  replace hm:Zv pu n (Zw pu n w0) s3 n1 c1 s4 z0 z1 q1=some v:=hm
  unfold Zv at hm
  refine .then (.rK ?_)
  replace hm:=Ae hm;obtain⟨h7,hm⟩:=hm
  refine .ghs (fr 35 [(1,Sl.v 1 s3),(7,sc 2 0 1 n1 c1),(19,Sl.v 1 s4),(20,zI z0),(21,zI z1),(22,(zB (AY z1 z0)))]) (hT 3 [(.cells Ay true false []),oC q1]) (.k [2] [false,false] [.tmp 7 false] [1,7,19,20,21,22] ⟨A7 h7,trivial⟩) ?_
  refine .then ?_
  replace hm:=Ag hm;rcases hm with⟨h8,hm⟩ | ⟨h8,hm⟩
  ·refine BB (AY z1 z0) h8 ?_
   refine .skip (.ghs (fr 35 [(1,Sl.v 1 s3),(7,sc 2 0 1 n1 c1),(19,Sl.v 1 s4),(20,zI z0),(21,zI z1)]) (hT 3 [(.cells Ay true false []),oC q1]) (.k [2] [false,false] [.tmp 7 false] [1,7,19,20,21] ⟨A7 h7,trivial⟩) ?_)
   refine .then (.block (.then ?_))
   replace hm:=Ab hm;obtain⟨k2,h9,hm⟩:=hm
   obtain rfl:=AR h9
   replace hm:=Ae hm;obtain⟨h10,hm⟩:=hm
   replace hm:=Gs hm;obtain⟨x1,h11,hm⟩:=hm
   refine .reg (eC 1 (keep (hT 3 [(.cells Ay true false []),oC q1]) (bb (an (Nat.blt k2 (Sl.n s4)) true) (some (Cv (k2*1) (Sl.cs s4))) none)) (AX h10) (eD (keep (hT 3 [(.cells Ay true false []),oC q1]) (AL (Sl.cs s4) (k2*1))) (AZ h11) (eE))) ?_
   refine .ghs (fr 35 [(1,Sl.v 1 s3),(7,sc 2 0 1 n1 c1),(8,(zI (Int.ofNat k2))),(9,zI x1),(19,Sl.v 1 s4),(20,zI z0),(21,(zI (Int.ofNat k2)))]) (hT 3 [(.cells Ay true false []),oC q1]) (.k [2] [false,false] [.tmp 7 false] [1,7,8,9,19,20,21] ⟨A7 h7,trivial⟩) ?_
   replace hm:=Ab hm;obtain⟨k3,h12,hm⟩:=hm
   obtain rfl:=AR h12
   replace hm:=Ae hm;obtain⟨h13,hm⟩:=hm
   replace hm:=Gs hm;obtain⟨x2,h14,hm⟩:=hm
   replace hm:=Ae hm;obtain⟨h15,hm⟩:=hm
   replace hm:=Ae hm;obtain⟨h16,hm⟩:=hm
   refine .reg (eC 4 (keep (hT 3 [(.cells Ay true false []),oC q1]) (bb (an (Nat.blt k3 (Sl.n s3)) true) (some (Cv (k3*1) (Sl.cs s3))) none)) (AX h13) (eD (keep (hT 3 [(.cells Ay true false []),oC q1]) (AL (Sl.cs s3) (k3*1))) (AZ h14) (eD (keep (hT 3 [(.cells Ay true false []),oC q1]) (bb (an (Nat.blt k2 n1) true) (some (.pointer (some ⟨2,(0+k2*1),none⟩))) none)) (AX h15) (eD (done (bb (an (Nat.ble ((0+k2*1)+1) (len q1)) true) (some (hT 3 [(.cells Ay true false []),(oC (BM ([zI x2]:LV) (0+k2*1) q1))])) none) undef) (Js h16) (eE))))) ?_
   replace hm:=Ae hm;obtain⟨h17,hm⟩:=hm
   refine .ghs (fr 35 [(1,Sl.v 1 s3),(7,sc 2 0 1 n1 c1),(19,Sl.v 1 s4),(20,zI z0),(21,(zI (Int.ofNat k2)))]) (hT 3 [(.cells Ay true false []),(oC (BM ([zI x2]:LV) (0+k2*1) q1))]) (.k [2] [false,false] [.tmp 7 false] [1,7,19,20,21] ⟨A7 h17,trivial⟩) ?_
   refine .rK ?_
   exact⟨(s3,n1,c1,s4,z0,(Aj .i64 (Int.add (Int.ofNat k2) (1:Int))),(BM ([zI x2]:LV) (0+k2*1) q1)),hm,(.k [2] [false,false] [.tmp 7 false] [1,7,19,20,21] ⟨A7 h17,trivial⟩)⟩
  ·refine BI (AY z1 z0) h8 ?_
   refine .exit ?_
   exact⟨(n1,c1,q1),hm,(.k [2] [false,false] [.tmp 7 false] [7] ⟨A7 h7,trivial⟩)⟩
def Wo (pu:Af) (n:Nat):OV:=
 (some (.tuple ⟨[(.int .i64 (0:Int)),(.bool false)]⟩))
def Zx (pu:Af) (n:Nat) (ih0:Int→Int→Int→Int→Int→Int→OV) (z0 z1 z2 z3 z4 z5:Int):OV:=
 (bb (AY z1 z0) (oo (pu 55 [(.agg ⟨[.int .i64 z2,.int .u32 z3]⟩),.int .i64 z1]) none fun v0=>(oo (Bt v0) none fun l0=>(ll l0 none fun v1 l0=>(ll l0 none fun v2 l0=>(ll l0 (oo (Bi .i64 v1) none fun x0=>(oo (Bi .u32 v2) none fun x1=>(bb (bq true (an (Bd x0 z4) (an (Bd x1 z5) true))) (some (.tuple ⟨[.int .i64 z1,(.bool true)]⟩)) (ih0 z0 (Aj .i64 (Int.add z1 (1:Int))) z2 z3 z4 z5)))) fun _ _=>none))))) (Wo pu n))
def Zy (pu:Af) (n w:Nat):Int→Int→Int→Int→Int→Int→OV:=
 Nat.rec (motive:=fun _=>Int→Int→Int→Int→Int→Int→OV) (fun _ _ _ _ _ _=>none) (fun _ ih0=>Zx pu n ih0) w
def Ahw (pu:Af) (n:Nat) (x0 x1 x2 x3:Int):OV:=
 (Zy pu n n x0 (0:Int) x0 x1 x2 x3)
def m60 (pu:Af) (n:Nat) (args:LV):OV:=
 (ll args none fun a0 args=>(ll args none fun a1 args=>(ll args (oo (Bt a0) none fun l0=>(ll l0 none fun v0 l0=>(ll l0 none fun v1 l0=>(ll l0 (oo (Bi .i64 v0) none fun x0=>(oo (Bi .u32 v1) none fun x1=>(oo (Bt a1) none fun l1=>(ll l1 none fun v2 l1=>(ll l1 none fun v3 l1=>(ll l1 (oo (Bi .i64 v2) none fun x2=>(oo (Bi .u32 v3) none fun x3=>(Ahw pu n x0 x1 x2 x3))) fun _ _=>none)))))) fun _ _=>none)))) fun _ _=>none)))
theorem Ahx (pu:Af) (n:Nat) {v:Value} (hm:Wo pu n=some v):BN tt (Bb tabs isP pu (inl pu)) 2 X5 (fr 19 []) (hT 2 [(.cells Ay true false [])]) (Fin tt 2 [.tmp 4,.tmp 5] v):=by
 unfold Wo at hm
 refine .then (.rK (.ghs (fr 19 [(4,(zI (0:Int))),(5,zB false)]) (hT 2 [(.cells Ay true false [])]) (.k0 [false,false] [] [4,5]) ?_))
 refine .ret ?_
 exact AO (.tuple ⟨[(zI (0:Int)),zB false]⟩) hm
theorem r60 {call:A8} (pu:Af) (n:Nat) (hcall:call=Bb tabs isP pu (inl pu)) {args:LV} {v:Value} (hm:m60 pu n args=some v) (_:∀ x∈args,closed2 x=true):args.length≤19∧BN tt call 2 PN (Fr.made 19 args) (Ao tabs) (Fin tt 2 [.tmp 4,.tmp 5] v):=by
 subst hcall
 unfold m60 at hm
 replace hm:=Ad hm;obtain⟨a0,args_0,rfl,hm⟩:=hm
 replace hm:=Ad hm;obtain⟨a1,args_1,rfl,hm⟩:=hm
 replace hm:=AC hm;obtain⟨rfl,hm⟩:=hm
 replace hm:=BG hm;obtain⟨l0,rfl,hm⟩:=hm
 replace hm:=Ad hm;obtain⟨v0,l7404_0,rfl,hm⟩:=hm
 replace hm:=Ad hm;obtain⟨v1,l7404_1,rfl,hm⟩:=hm
 replace hm:=AC hm;obtain⟨rfl,hm⟩:=hm
 replace hm:=Ai hm;obtain⟨x0,rfl,hm⟩:=hm
 replace hm:=Ai hm;obtain⟨x1,rfl,hm⟩:=hm
 replace hm:=BG hm;obtain⟨l1,rfl,hm⟩:=hm
 replace hm:=Ad hm;obtain⟨v2,l7412_0,rfl,hm⟩:=hm
 replace hm:=Ad hm;obtain⟨v3,l7412_1,rfl,hm⟩:=hm
 replace hm:=AC hm;obtain⟨rfl,hm⟩:=hm
 replace hm:=Ai hm;obtain⟨x2,rfl,hm⟩:=hm
 replace hm:=Ai hm;obtain⟨x3,rfl,hm⟩:=hm
 unfold Ahw at hm
 refine⟨by simp,?_⟩
 refine .same (F':=(fr 19 [(0,(.agg ⟨[zI x0,.int .u32 x1]⟩)),(1,(.agg ⟨[zI x2,.int .u32 x3]⟩))])) (H':=(hT 2 [(.cells Ay true false [])])) (by kernel_rfl) (by kernel_rfl) ?_
 refine .then (.rK (.ghs (fr 19 [(2,(pt 2 0)),(3,(pt 3 0))]) (hT 4 [(.cells Ay true false []),(oC [zI x0,.int .u32 x1]),(oC [zI x2,.int .u32 x3])]) (.k0 [false,false] [.tmp 2 false,.tmp 3 false] [2,3]) ?_))
 refine .join (v:=v) (fun y:Unit=>((fr 19 []),(hT 2 [(.cells Ay true false [])]))) (fun y=>Wo pu n) ?_ ?_
 ·rintro _ hm
  exact Ahx pu n hm
 ·refine .then (.rK (.ghs (fr 19 [(2,(pt 2 0)),(3,(pt 3 0)),(8,zI x0),(9,(zI (0:Int)))]) (hT 4 [(.cells Ay true false []),(oC [zI x0,.int .u32 x1]),(oC [zI x2,.int .u32 x3])]) (.k0 [false,false] [.tmp 2 false,.tmp 3 false] [2,3,8,9]) ?_))
  refine .block (.loopM (v:=v) (fun y:Int×Int×Int×Int×Int×Int=>((fr 19 [(2,(pt 2 0)),(3,(pt 3 0)),(8,(zI y.1)),(9,(zI y.2.1))]),(hT 4 [(.cells Ay true false []),(oC [(zI y.2.2.1),(.int .u32 y.2.2.2.1)]),(oC [(zI y.2.2.2.2.1),(.int .u32 y.2.2.2.2.2)])]))) (fun w y=>Zy pu n w y.1 y.2.1 y.2.2.1 y.2.2.2.1 y.2.2.2.2.1 y.2.2.2.2.2) n ⟨(x0,(0:Int),x0,x1,x2,x3),hm,(.k0 [false,false] [.tmp 2 false,.tmp 3 false] [2,3,8,9])⟩ (fun _=>rfl) ?_)
  rintro w0 ⟨z0,z1,z2,z3,z4,z5⟩ hm
  replace hm:Zx pu n (Zy pu n w0) z0 z1 z2 z3 z4 z5=some v:=hm
  unfold Zx at hm
  refine .then (.rK (.ghs (fr 19 [(2,(pt 2 0)),(3,(pt 3 0)),(8,zI z0),(9,zI z1),(10,(zB (AY z1 z0)))]) (hT 4 [(.cells Ay true false []),(oC [zI z2,.int .u32 z3]),(oC [zI z4,.int .u32 z5])]) (.k0 [false,false] [.tmp 2 false,.tmp 3 false] [2,3,8,9,10]) ?_))
  refine .then ?_
  replace hm:=Ag hm;rcases hm with⟨h0,hm⟩ | ⟨h0,hm⟩
  ·refine BB (AY z1 z0) h0 ?_
   refine .skip (.ghs (fr 19 [(2,(pt 2 0)),(3,(pt 3 0)),(8,zI z0),(9,zI z1)]) (hT 4 [(.cells Ay true false []),(oC [zI z2,.int .u32 z3]),(oC [zI z4,.int .u32 z5])]) (.k0 [false,false] [.tmp 2 false,.tmp 3 false] [2,3,8,9]) ?_)
   refine .then (.block (.then (.rK (.ghs (fr 19 [(2,(pt 2 0)),(3,(pt 3 0)),(6,zI z1),(8,zI z0),(9,zI z1)]) (hT 4 [(.cells Ay true false []),(oC [zI z2,.int .u32 z3]),(oC [zI z4,.int .u32 z5])]) (.k0 [false,false] [.tmp 2 false,.tmp 3 false] [2,3,6,8,9]) ?_))))
   refine .then ?_
   replace hm:=Ab hm;obtain⟨v4,h1,hm⟩:=hm
   replace hm:=BG hm;obtain⟨l2,rfl,hm⟩:=hm
   replace hm:=Ad hm;obtain⟨v5,l7495_0,rfl,hm⟩:=hm
   replace hm:=Ad hm;obtain⟨v6,l7495_1,rfl,hm⟩:=hm
   replace hm:=AC hm;obtain⟨rfl,hm⟩:=hm
   replace hm:=Ai hm;obtain⟨x4,rfl,hm⟩:=hm
   replace hm:=Ai hm;obtain⟨x5,rfl,hm⟩:=hm
   refine .reg (eC 3 ((oo (pu 55 [(.agg ⟨[zI z2,.int .u32 z3]⟩),zI z1]) none fun v=>some (v,(hT 4 [(.cells Ay true false []),(oC [zI z2,.int .u32 z3]),(oC [zI z4,.int .u32 z5])])))) (AB h1) (eE)) ?_
   refine .ghs (fr 19 [(2,(pt 2 0)),(3,(pt 3 0)),(6,zI z1),(8,zI z0),(9,zI z1),(16,(zB (bq true (an (Bd x4 z4) (an (Bd x5 z5) true)))))]) (hT 4 [(.cells Ay true false []),(oC [zI z2,.int .u32 z3]),(oC [zI z4,.int .u32 z5])]) (.k0 [false,false] [.tmp 2 false,.tmp 3 false] [2,3,6,8,9,16]) ?_
   replace hm:=Ag hm;rcases hm with⟨h2,hm⟩ | ⟨h2,hm⟩
   ·refine BB (bq true (an (Bd x4 z4) (an (Bd x5 z5) true))) h2 ?_
    refine .then (.rK (.ghs (fr 19 [(4,zI z1),(5,zB true)]) (hT 2 [(.cells Ay true false [])]) (.k0 [false,false] [] [4,5]) ?_))
    refine .ret ?_
    exact AO (.tuple ⟨[zI z1,zB true]⟩) hm
   ·refine BI (bq true (an (Bd x4 z4) (an (Bd x5 z5) true))) h2 ?_
    refine .skip (.ghs (fr 19 [(2,(pt 2 0)),(3,(pt 3 0)),(8,zI z0),(9,zI z1)]) (hT 4 [(.cells Ay true false []),(oC [zI z2,.int .u32 z3]),(oC [zI z4,.int .u32 z5])]) (.k0 [false,false] [.tmp 2 false,.tmp 3 false] [2,3,8,9]) ?_)
    refine .rK ?_
    exact⟨(z0,(Aj .i64 (Int.add z1 (1:Int))),z2,z3,z4,z5),hm,(.k0 [false,false] [.tmp 2 false,.tmp 3 false] [2,3,8,9])⟩
  ·refine BI (AY z1 z0) h0 ?_
   refine .exit ?_
   exact⟨(),hm,(.k0 [false,false] [] [])⟩
def Wp (pu:Af) (n:Nat) (z0 z1 z2 z3:Int):OV:=
 (some (.agg ⟨[.int .i64 z2,.int .u32 z3]⟩))
def Zz (pu:Af) (n:Nat) (ih0:Int→Sl→Int→Int→Int→Int→Int→Int→Int→Int→OV) (z0:Int) (s0:Sl) (z1 z2 z3 z4 z5 z6 z7 z8:Int):OV:=
 (bb (AY z2 z1) (oo (EA z2) none fun k1=>(bb (an (Nat.blt k1 (Sl.n s0)) true) (oo (AL (Sl.cs s0) (k1*1)) none fun v0=>(oo (Bi .i64 v0) none fun x0=>(oo (pu 56 [(.agg ⟨[.int .i64 z3,.int .u32 z4]⟩),(.int .i64 (Aj .i64 (Int.mul x0 z0)))]) none fun v1=>(oo (Bi .i64 v1) none fun x1=>(oo (EA x1) none fun k2=>(ih0 z0 s0 z1 (Aj .i64 (Int.add (Int.ofNat k1) (1:Int))) z3 z4 z5 z6 z7 (jF .u32 z8 (QW .u32 (1:Int) k2)))))))) none)) (Wp pu n z5 z6 z7 z8))
def ZA (pu:Af) (n w:Nat):Int→Sl→Int→Int→Int→Int→Int→Int→Int→Int→OV:=
 Nat.rec (motive:=fun _=>Int→Sl→Int→Int→Int→Int→Int→Int→Int→Int→OV) (fun _ _ _ _ _ _ _ _ _ _=>none) (fun _ ih0=>Zz pu n ih0) w
def Ahy (pu:Af) (n:Nat) (x0 x1 x2:Int):OV:=
 (oo (pu 116 [(.agg ⟨[.int .i64 x0,.int .u32 x1]⟩)]) none fun v0=>(oo (Bj 1 v0) none fun s0=>(ZA pu n n x2 s0 (Int.ofNat (Sl.n s0)) (0:Int) x0 x1 (0:Int) (0:Int) x0 (0:Int))))
def m61 (pu:Af) (n:Nat) (args:LV):OV:=
 (ll args none fun a0 args=>(ll args none fun a1 args=>(ll args (oo (Bt a0) none fun l0=>(ll l0 none fun v0 l0=>(ll l0 none fun v1 l0=>(ll l0 (oo (Bi .i64 v0) none fun x0=>(oo (Bi .u32 v1) none fun x1=>(oo (Bi .i64 a1) none fun x2=>(Ahy pu n x0 x1 x2)))) fun _ _=>none)))) fun _ _=>none)))
theorem Ahz (pu:Af) (n:Nat) (z0 z1 z2 z3:Int) {v:Value} (hm:Wp pu n z0 z1 z2 z3=some v):BN tt (Bb tabs isP pu (inl pu)) 2 X6 (fr 30 [(4,(pt 2 0)),(5,(pt 3 0))]) (hT 4 [(.cells Ay true false []),(oC [zI z0,.int .u32 z1]),(oC [zI z2,.int .u32 z3])]) (Fin tt 2 [.cell 4 99] v):=by
 unfold Wp at hm
 refine .then (.rK (.ghs (fr 30 [(4,(pt 2 0))]) (hT 3 [(.cells Ay true false []),(oC [zI z2,.int .u32 z3])]) (.k0 [false,false] [.tmp 4 false] [4]) ?_))
 refine .ret ?_
 exact AO (.agg ⟨[zI z2,.int .u32 z3]⟩) hm
theorem r61 {call:A8} (pu:Af) (n:Nat) (hcall:call=Bb tabs isP pu (inl pu)) {args:LV} {v:Value} (hm:m61 pu n args=some v) (_:∀ x∈args,closed2 x=true):args.length≤30∧BN tt call 2 PO (Fr.made 30 args) (Ao tabs) (Fin tt 2 [.cell 4 99] v):=by
 subst hcall
 unfold m61 at hm
 replace hm:=Ad hm;obtain⟨a0,args_0,rfl,hm⟩:=hm
 replace hm:=Ad hm;obtain⟨a1,args_1,rfl,hm⟩:=hm
 replace hm:=AC hm;obtain⟨rfl,hm⟩:=hm
 replace hm:=BG hm;obtain⟨l0,rfl,hm⟩:=hm
 replace hm:=Ad hm;obtain⟨v0,l7504_0,rfl,hm⟩:=hm
 replace hm:=Ad hm;obtain⟨v1,l7504_1,rfl,hm⟩:=hm
 replace hm:=AC hm;obtain⟨rfl,hm⟩:=hm
 replace hm:=Ai hm;obtain⟨x0,rfl,hm⟩:=hm
 replace hm:=Ai hm;obtain⟨x1,rfl,hm⟩:=hm
 replace hm:=Ai hm;obtain⟨x2,rfl,hm⟩:=hm
 unfold Ahy at hm
 refine⟨by simp,?_⟩
 refine .same (F':=(fr 30 [(0,(.agg ⟨[zI x0,.int .u32 x1]⟩)),(1,zI x2)])) (H':=(hT 2 [(.cells Ay true false [])])) (by kernel_rfl) (by kernel_rfl) ?_
 refine .then (.rK (.ghs (fr 30 [(1,zI x2),(2,(pt 2 0)),(4,(pt 3 0))]) (hT 4 [(.cells Ay true false []),(oC [zI x0,.int .u32 x1]),(oC [(zI (0:Int)),(.int .u32 (0:Int))])]) (.k0 [false,false] [.tmp 2 false,.tmp 4 false] [1,2,4]) ?_))
 refine .then (.rK (.ghs (fr 30 [(1,zI x2),(2,(pt 2 0)),(4,(pt 3 0)),(5,(pt 4 0))]) (hT 5 [(.cells Ay true false []),(oC [zI x0,.int .u32 x1]),(oC [(zI (0:Int)),(.int .u32 (0:Int))]),(oC [zI x0,(.int .u32 (0:Int))])]) (.k0 [false,false] [.tmp 2 false,.tmp 4 false,.tmp 5 false] [1,2,4,5]) ?_))
 refine .join (v:=v) (fun y:Int×Int×Int×Int=>((fr 30 [(4,(pt 2 0)),(5,(pt 3 0))]),(hT 4 [(.cells Ay true false []),(oC [(zI y.1),(.int .u32 y.2.1)]),(oC [(zI y.2.2.1),(.int .u32 y.2.2.2)])]))) (fun y=>Wp pu n y.1 y.2.1 y.2.2.1 y.2.2.2) ?_ ?_
 ·rintro⟨z0,z1,z2,z3⟩ hm
  exact Ahz pu n z0 z1 z2 z3 hm
 ·refine .then ?_
  replace hm:=Sa hm;obtain⟨s0,h0,hm⟩:=hm
  refine .reg (eC 1 ((oo (pu 116 [(.agg ⟨[zI x0,.int .u32 x1]⟩)]) none fun v=>some (v,(hT 5 [(.cells Ay true false []),(oC [zI x0,.int .u32 x1]),(oC [(zI (0:Int)),(.int .u32 (0:Int))]),(oC [zI x0,(.int .u32 (0:Int))])])))) (AB h0) (eE)) ?_
  refine .ghs (fr 30 [(1,zI x2),(2,(pt 2 0)),(4,(pt 3 0)),(5,(pt 4 0)),(12,Sl.v 1 s0),(13,(zI (Int.ofNat (Sl.n s0)))),(14,(zI (0:Int)))]) (hT 5 [(.cells Ay true false []),(oC [zI x0,.int .u32 x1]),(oC [(zI (0:Int)),(.int .u32 (0:Int))]),(oC [zI x0,(.int .u32 (0:Int))])]) (.k0 [false,false] [.tmp 2 false,.tmp 4 false,.tmp 5 false] [1,2,4,5,12,13,14]) ?_
  refine .block (.loopM (v:=v) (fun y:Int×Sl×Int×Int×Int×Int×Int×Int×Int×Int=>((fr 30 [(1,(zI y.1)),(2,(pt 2 0)),(4,(pt 3 0)),(5,(pt 4 0)),(12,(Sl.v 1 y.2.1)),(13,(zI y.2.2.1)),(14,(zI y.2.2.2.1))]),(hT 5 [(.cells Ay true false []),(oC [(zI y.2.2.2.2.1),(.int .u32 y.2.2.2.2.2.1)]),(oC [(zI y.2.2.2.2.2.2.1),(.int .u32 y.2.2.2.2.2.2.2.1)]),(oC [(zI y.2.2.2.2.2.2.2.2.1),(.int .u32 y.2.2.2.2.2.2.2.2.2)])]))) (fun w y=>ZA pu n w y.1 y.2.1 y.2.2.1 y.2.2.2.1 y.2.2.2.2.1 y.2.2.2.2.2.1 y.2.2.2.2.2.2.1 y.2.2.2.2.2.2.2.1 y.2.2.2.2.2.2.2.2.1 y.2.2.2.2.2.2.2.2.2) n ⟨(x2,s0,(Int.ofNat (Sl.n s0)),(0:Int),x0,x1,(0:Int),(0:Int),x0,(0:Int)),hm,(.k0 [false,false] [.tmp 2 false,.tmp 4 false,.tmp 5 false] [1,2,4,5,12,13,14])⟩ (fun _=>rfl) ?_)
  rintro w0 ⟨z4,s1,z5,z6,z7,z8,z9,z10,z11,z12⟩ hm
  replace hm:Zz pu n (ZA pu n w0) z4 s1 z5 z6 z7 z8 z9 z10 z11 z12=some v:=hm
  unfold Zz at hm
  refine .then (.rK (.ghs (fr 30 [(1,zI z4),(2,(pt 2 0)),(4,(pt 3 0)),(5,(pt 4 0)),(12,Sl.v 1 s1),(13,zI z5),(14,zI z6),(15,(zB (AY z6 z5)))]) (hT 5 [(.cells Ay true false []),(oC [zI z7,.int .u32 z8]),(oC [zI z9,.int .u32 z10]),(oC [zI z11,.int .u32 z12])]) (.k0 [false,false] [.tmp 2 false,.tmp 4 false,.tmp 5 false] [1,2,4,5,12,13,14,15]) ?_))
  refine .then ?_
  replace hm:=Ag hm;rcases hm with⟨h1,hm⟩ | ⟨h1,hm⟩
  ·refine BB (AY z6 z5) h1 ?_
   refine .skip (.ghs (fr 30 [(1,zI z4),(2,(pt 2 0)),(4,(pt 3 0)),(5,(pt 4 0)),(12,Sl.v 1 s1),(13,zI z5),(14,zI z6)]) (hT 5 [(.cells Ay true false []),(oC [zI z7,.int .u32 z8]),(oC [zI z9,.int .u32 z10]),(oC [zI z11,.int .u32 z12])]) (.k0 [false,false] [.tmp 2 false,.tmp 4 false,.tmp 5 false] [1,2,4,5,12,13,14]) ?_)
   refine .then (.block (.then ?_))
   replace hm:=Ab hm;obtain⟨k1,h2,hm⟩:=hm
   obtain rfl:=AR h2
   replace hm:=Ae hm;obtain⟨h3,hm⟩:=hm
   replace hm:=Gs hm;obtain⟨x3,h4,hm⟩:=hm
   refine .reg (eD (keep (hT 5 [(.cells Ay true false []),(oC [zI z7,.int .u32 z8]),(oC [zI z9,.int .u32 z10]),(oC [zI z11,.int .u32 z12])]) (bb (an (Nat.blt k1 (Sl.n s1)) true) (some (Cv (k1*1) (Sl.cs s1))) none)) (AX h3) (eD (keep (hT 5 [(.cells Ay true false []),(oC [zI z7,.int .u32 z8]),(oC [zI z9,.int .u32 z10]),(oC [zI z11,.int .u32 z12])]) (AL (Sl.cs s1) (k1*1))) (AZ h4) (eE))) ?_
   refine .ghs (fr 30 [(1,zI z4),(2,(pt 2 0)),(4,(pt 3 0)),(5,(pt 4 0)),(7,zI x3),(12,Sl.v 1 s1),(13,zI z5),(14,(zI (Int.ofNat k1)))]) (hT 5 [(.cells Ay true false []),(oC [zI z7,.int .u32 z8]),(oC [zI z9,.int .u32 z10]),(oC [zI z11,.int .u32 z12])]) (.k0 [false,false] [.tmp 2 false,.tmp 4 false,.tmp 5 false] [1,2,4,5,7,12,13,14]) ?_
   replace hm:=Gs hm;obtain⟨x4,h5,hm⟩:=hm
   replace hm:=Ab hm;obtain⟨k2,h6,hm⟩:=hm
   obtain rfl:=AR h6
   refine .reg (eC 6 ((oo (pu 56 [(.agg ⟨[zI z7,.int .u32 z8]⟩),(zI (Aj .i64 (Int.mul x3 z4)))]) none fun v=>some (v,(hT 5 [(.cells Ay true false []),(oC [zI z7,.int .u32 z8]),(oC [zI z9,.int .u32 z10]),(oC [zI z11,.int .u32 z12])])))) (AB h5) (eE)) ?_
   refine .ghs (fr 30 [(1,zI z4),(2,(pt 2 0)),(4,(pt 3 0)),(5,(pt 4 0)),(12,Sl.v 1 s1),(13,zI z5),(14,(zI (Int.ofNat k1)))]) (hT 5 [(.cells Ay true false []),(oC [zI z7,.int .u32 z8]),(oC [zI z9,.int .u32 z10]),(oC [zI z11,(.int .u32 (jF .u32 z12 (QW .u32 (1:Int) k2)))])]) (.k0 [false,false] [.tmp 2 false,.tmp 4 false,.tmp 5 false] [1,2,4,5,12,13,14]) ?_
   refine .rK ?_
   exact⟨(z4,s1,z5,(Aj .i64 (Int.add (Int.ofNat k1) (1:Int))),z7,z8,z9,z10,z11,(jF .u32 z12 (QW .u32 (1:Int) k2))),hm,(.k0 [false,false] [.tmp 2 false,.tmp 4 false,.tmp 5 false] [1,2,4,5,12,13,14])⟩
  ·refine BI (AY z6 z5) h1 ?_
   refine .exit ?_
   exact⟨(z9,z10,z11,z12),hm,(.k0 [false,false] [.tmp 4 false,.tmp 5 false] [4,5])⟩
def Sj (pu:Af) (n:Nat) (b0:Bool):OV:=
 (some (.bool b0))
def AhA (pu:Af) (n:Nat) (x0 x1 x2:Int):OV:=
 (bb (nt (AY x1 x0)) (Sj pu n (nt (AY x2 x1))) (Sj pu n false))
def m96 (pu:Af) (n:Nat) (args:LV):OV:=
 (ll args none fun a0 args=>(ll args none fun a1 args=>(ll args none fun a2 args=>(ll args (oo (Bi .i64 a0) none fun x0=>(oo (Bi .i64 a1) none fun x1=>(oo (Bi .i64 a2) none fun x2=>(AhA pu n x0 x1 x2)))) fun _ _=>none))))
theorem AhB (pu:Af) (n:Nat) (b0:Bool) {v:Value} (hm:Sj pu n b0=some v):BN tt (Bb tabs isP pu (inl pu)) 2 .ret (fr 15 [(6,zB b0)]) (hT 2 [(.cells Ay true false [])]) (Fin tt 2 [.tmp 6] v):=by
 unfold Sj at hm
 refine .ret ?_
 exact AO (zB b0) hm
theorem r96 {call:A8} (pu:Af) (n:Nat) (hcall:call=Bb tabs isP pu (inl pu)) {args:LV} {v:Value} (hm:m96 pu n args=some v) (_:∀ x∈args,closed2 x=true):args.length≤15∧BN tt call 2 UI (Fr.made 15 args) (Ao tabs) (Fin tt 2 [.tmp 6] v):=by
 subst hcall
 unfold m96 at hm
 replace hm:=Ad hm;obtain⟨a0,args_0,rfl,hm⟩:=hm
 replace hm:=Ad hm;obtain⟨a1,args_1,rfl,hm⟩:=hm
 replace hm:=Ad hm;obtain⟨a2,args_2,rfl,hm⟩:=hm
 replace hm:=AC hm;obtain⟨rfl,hm⟩:=hm
 replace hm:=Ai hm;obtain⟨x0,rfl,hm⟩:=hm
 replace hm:=Ai hm;obtain⟨x1,rfl,hm⟩:=hm
 replace hm:=Ai hm;obtain⟨x2,rfl,hm⟩:=hm
 unfold AhA at hm
 refine⟨by simp,?_⟩
 refine .same (F':=(fr 15 [(0,zI x0),(1,zI x1),(2,zI x2)])) (H':=(hT 2 [(.cells Ay true false [])])) (by kernel_rfl) (by kernel_rfl) ?_
 refine .then (.rK (.ghs (fr 15 [(0,zI x0),(1,zI x1),(2,zI x2)]) (hT 2 [(.cells Ay true false [])]) (.k0 [false,false] [] [0,1,2]) ?_))
 refine .join (v:=v) (fun y:Bool=>((fr 15 [(6,zB y)]),(hT 2 [(.cells Ay true false [])]))) (fun y=>Sj pu n y) ?_ ?_
 ·rintro b0 hm
  exact AhB pu n b0 hm
 ·replace hm:=Ag hm;rcases hm with⟨h0,hm⟩ | ⟨h0,hm⟩
  ·refine .reg (eC 2 (some ((zB (nt (AY x1 x0))),(hT 2 [(.cells Ay true false [])]))) (show _=some ((zB true),_) from (by rw[show (nt (AY x1 x0))=true from h0])) (eE)) ?_
   exact⟨(nt (AY x2 x1)),hm,(.k0 [false,false] [] [6])⟩
  ·refine .reg (eC 2 (some ((zB (nt (AY x1 x0))),(hT 2 [(.cells Ay true false [])]))) (show _=some ((zB false),_) from (by rw[show (nt (AY x1 x0))=false from h0])) (eE)) ?_
   exact⟨false,hm,(.k0 [false,false] [] [6])⟩
def Qu (pu:Af) (n:Nat) (z0 z1 z2:Int) (s0:Sl) (n0 c0:Nat) (q0:LV):OV:=
 (bb (Au Ah q0) (bb (an (Nat.ble (0+n0*1) (len q0)) (Au Ah (Aq (n0*1) (Am 0 q0)))) (some (.tuple ⟨[(Cv 0 ([.int .i64 z0,.int .i64 z1,.int .i64 z2,Sl.v 1 s0,(Sl.v 1 (Sl.mk n0 0 (Aq (n0*1) (Am 0 q0))))]:LV)),(.int .i64 (0:Int))]⟩)) none) none)
def TV (pu:Af) (n:Nat) (ih0:Int→Sl→Int→Int→Int→Int→Int→Sl→Int→Int→Int→Sl→Nat→Nat→LV→OV) (z0:Int) (s0:Sl) (z1 z2 z3 z4 z5:Int) (s1:Sl) (z6 z7 z8:Int) (s2:Sl) (n0 c0:Nat) (q0:LV):OV:=
 (bb (Au Ah q0) (ih0 z0 s0 z1 (Aj .i64 (Int.add z2 (1:Int))) z3 z4 z5 s1 z6 z7 z8 s2 n0 c0 q0) none)
def TW (pu:Af) (n:Nat) (ih0:Int→Sl→Int→Int→Int→Int→Int→Sl→Int→Int→Int→Sl→Nat→Nat→LV→OV) (ih1:Int→Int→Sl→Int→Int→Sl→Int→Int→Int→Int→Int→Sl→Int→Int→Int→Sl→Nat→Nat→LV→OV) (z0 z1:Int) (s0:Sl) (z2 z3:Int) (s1:Sl) (z4 z5 z6 z7 z8:Int) (s2:Sl) (z9 z10 z11:Int) (s3:Sl) (n0 c0:Nat) (q0:LV):OV:=
 (bb (Au Ah q0) (bb (AY z5 z4) (oo (EA z5) none fun k1=>(bb (an (Nat.blt k1 (Sl.n s1)) true) (oo (AL (Sl.cs s1) (k1*1)) none fun v0=>(oo (Bi .i64 v0) none fun x0=>(oo (pu 164 [.int .i64 z1]) none fun v1=>(oo (Bt v1) none fun l0=>(ll l0 none fun v2 l0=>(ll l0 none fun v3 l0=>(ll l0 (oo (Bi .i64 v2) none fun x1=>(oo (Bf v3) none fun b0=>(oo (pu 164 [.int .i64 x0]) none fun v4=>(oo (Bt v4) none fun l1=>(ll l1 none fun v5 l1=>(ll l1 none fun v6 l1=>(ll l1 (oo (Bi .i64 v5) none fun x2=>(oo (Bf v6) none fun b1=>(oo (pu 166 [(.agg ⟨[.int .i64 x1,(.bool b0)]⟩),(.agg ⟨[.int .i64 x2,(.bool b1)]⟩)]) none fun v7=>(oo (Bt v7) none fun l2=>(ll l2 none fun v8 l2=>(ll l2 none fun v9 l2=>(ll l2 (oo (Bi .i64 v8) none fun x3=>(oo (Bf v9) none fun b2=>(oo (pu 167 [(.agg ⟨[.int .i64 x3,(.bool b2)]⟩)]) none fun v10=>(oo (Bi .i64 v10) none fun x4=>(oo (EA x4) none fun k2=>(bb (Bd (Np .u8 (G6 .u8 z0 k2) (1:Int)) (0:Int)) (some (.tuple ⟨[(.pointer none),(.int .i64 (21:Int))]⟩)) (ih1 z0 z1 s0 z2 z3 s1 z4 (Aj .i64 (Int.add (Int.ofNat k1) (1:Int))) z6 z7 z8 s2 z9 z10 z11 s3 n0 c0 q0))))))) fun _ _=>none))))))) fun _ _=>none))))))) fun _ _=>none))))))) none)) (TV pu n ih0 z0 s0 z2 z3 z6 z7 z8 s2 z9 z10 z11 s3 n0 c0 q0)) none)
def Ua (pu:Af) (n:Nat) (ih0:Int→Sl→Int→Int→Int→Int→Int→Sl→Int→Int→Int→Sl→Nat→Nat→LV→OV) (w:Nat):Int→Int→Sl→Int→Int→Sl→Int→Int→Int→Int→Int→Sl→Int→Int→Int→Sl→Nat→Nat→LV→OV:=
 Nat.rec (motive:=fun _=>Int→Int→Sl→Int→Int→Sl→Int→Int→Int→Int→Int→Sl→Int→Int→Int→Sl→Nat→Nat→LV→OV) (fun _ _ _ _ _ _ _ _ _ _ _ _ _ _ _ _ _ _ _=>none) (fun _ ih1=>TW pu n ih0 ih1) w
def Ub (pu:Af) (n:Nat) (ih0:Int→Sl→Int→Int→Int→Int→Int→Sl→Int→Int→Int→Sl→Nat→Nat→LV→OV) (z0:Int) (s0:Sl) (z1 z2 z3 z4 z5:Int) (s1:Sl) (z6 z7 z8:Int) (s2:Sl) (n0 c0:Nat) (q0:LV):OV:=
 (bb (Au Ah q0) (bb (AY z2 z1) (oo (EA z2) none fun k1=>(bb (an (Nat.blt k1 (Sl.n s0)) true) (oo (AL (Sl.cs s0) (k1*1)) none fun v0=>(oo (Bi .i64 v0) none fun x0=>(Ua pu n ih0 n z0 x0 s0 z1 (Int.ofNat k1) s1 (Int.ofNat (Sl.n s1)) (0:Int) z3 z4 z5 s1 z6 z7 z8 s2 n0 c0 q0))) none)) (Qu pu n z6 z7 z8 s2 n0 c0 q0)) none)
def Jd (pu:Af) (n w:Nat):Int→Sl→Int→Int→Int→Int→Int→Sl→Int→Int→Int→Sl→Nat→Nat→LV→OV:=
 Nat.rec (motive:=fun _=>Int→Sl→Int→Int→Int→Int→Int→Sl→Int→Int→Int→Sl→Nat→Nat→LV→OV) (fun _ _ _ _ _ _ _ _ _ _ _ _ _ _ _=>none) (fun _ ih0=>Ub pu n ih0) w
def Qv (pu:Af) (n:Nat) (z0 z1 z2 z3:Int) (s0:Sl) (z4 z5 z6:Int) (s1:Sl) (n0 c0:Nat) (q0:LV):OV:=
 (bb (Au Ah q0) (bb (Bd (Np .u8 z0 (1:Int)) (0:Int)) (some (.tuple ⟨[(.pointer none),(.int .i64 (21:Int))]⟩)) (Jd pu n n z0 s0 (Int.ofNat (Sl.n s0)) (0:Int) z1 z2 z3 s0 z4 z5 z6 s1 n0 c0 q0)) none)
def Qw (pu:Af) (n:Nat) (ih0:Int→Int→Sl→Int→Int→Int→Int→Int→Sl→Int→Int→Int→Sl→Nat→Nat→LV→OV) (z0 z1 z2:Int) (s0:Sl) (z3 z4:Int) (b0:Bool) (z5 z6 z7:Int) (s1:Sl) (z8 z9 z10:Int) (s2:Sl) (n0 c0:Nat) (q0:LV):OV:=
 (bb b0 (some (.tuple ⟨[(.pointer none),(.int .i64 (8:Int))]⟩)) (bb (Au Ah q0) (bb (nt (AY z0 z2)) (some (.tuple ⟨[(.pointer none),(.int .i64 (7:Int))]⟩)) (oo (EA z2) none fun k1=>(oo (pu 165 [(.agg ⟨[.int .i64 z5,.int .i64 z6,.int .i64 z7,Sl.v 1 s1]⟩),(.int .i64 (Int.ofNat k1))]) none fun v0=>(oo (Bj 1 v0) none fun s3=>(bb (GV 1 24 n0 c0 1 q0) (bb (Au Ah (Br (Am 0 q0) [Sl.v 1 s3])) (ih0 (Int.ofNat k1) (jF .u8 z1 (QW .u8 (1:Int) k1)) s0 z3 (Aj .i64 (Int.add z4 (1:Int))) z5 z6 z7 s1 z8 z9 z10 s2 (n0+1) (2*(n0+1)+bb false 1 0) (Br (Am 0 q0) [Sl.v 1 s3])) none) none))))) none))
def Ud (pu:Af) (n:Nat) (ih0:Int→Int→Sl→Int→Int→Int→Int→Int→Sl→Int→Int→Int→Sl→Nat→Nat→LV→OV) (z0 z1:Int) (s0:Sl) (z2 z3 z4 z5 z6:Int) (s1:Sl) (z7 z8 z9:Int) (s2:Sl) (n0 c0:Nat) (q0:LV):OV:=
 (bb (Au Ah q0) (bb (AY z3 z2) (oo (EA z3) none fun k1=>(bb (an (Nat.blt k1 (Sl.n s0)) true) (oo (AL (Sl.cs s0) (k1*1)) none fun v0=>(oo (Bi .i64 v0) none fun x0=>(oo (pu 96 [(.int .i64 (0:Int)),.int .i64 x0,(.int .i64 (7:Int))]) none fun v1=>(oo (Bf v1) none fun b0=>(bb (nt b0) (some (.tuple ⟨[(.pointer none),(.int .i64 (2:Int))]⟩)) (bb (nt (Bd z4 z5)) (oo (pu 164 [.int .i64 x0]) none fun v2=>(oo (Bt v2) none fun l0=>(ll l0 none fun v3 l0=>(ll l0 none fun v4 l0=>(ll l0 (oo (Bi .i64 v3) none fun x1=>(oo (Bf v4) none fun b1=>(Qw pu n ih0 z0 z1 x0 s0 z2 (Int.ofNat k1) (Bd (Int.tmod x1 (2:Int)) (1:Int)) z4 z5 z6 s1 z7 z8 z9 s2 n0 c0 q0))) fun _ _=>none))))) (Qw pu n ih0 z0 z1 x0 s0 z2 (Int.ofNat k1) false z4 z5 z6 s1 z7 z8 z9 s2 n0 c0 q0))))))) none)) (Qv pu n z1 z4 z5 z6 s1 z7 z8 z9 s2 n0 c0 q0)) none)
def Qz (pu:Af) (n w:Nat):Int→Int→Sl→Int→Int→Int→Int→Int→Sl→Int→Int→Int→Sl→Nat→Nat→LV→OV:=
 Nat.rec (motive:=fun _=>Int→Int→Sl→Int→Int→Int→Int→Int→Sl→Int→Int→Int→Sl→Nat→Nat→LV→OV) (fun _ _ _ _ _ _ _ _ _ _ _ _ _ _ _ _=>none) (fun _ ih0=>Ud pu n ih0) w
def M8 (pu:Af) (n:Nat) (b0:Bool) (z0 z1 z2:Int) (s0:Sl):OV:=
 (bb b0 (some (.tuple ⟨[(.pointer none),(.int .i64 (1:Int))]⟩)) (Qz pu n n (-1:Int) (0:Int) s0 (Int.ofNat (Sl.n s0)) (0:Int) z0 z1 z2 s0 z0 z1 z2 s0 0 0 ([]:LV)))
def uQ (pu:Af) (n:Nat) (x0 x1 x2:Int) (s0:Sl):OV:=
 (oo (pu 96 [(.int .i64 (1:Int)),.int .i64 x0,(.int .i64 (4:Int))]) none fun v0=>(oo (Bf v0) none fun b0=>(bb (nt b0) (M8 pu n true x0 x1 x2 s0) (oo (pu 96 [(.int .i64 (1:Int)),.int .i64 x1,(.int .i64 (4:Int))]) none fun v1=>(oo (Bf v1) none fun b1=>(bb (nt b1) (M8 pu n true x0 x1 x2 s0) (oo (pu 96 [(.int .i64 (1:Int)),.int .i64 x2,(.int .i64 (4:Int))]) none fun v2=>(oo (Bf v2) none fun b2=>(M8 pu n (nt b2) x0 x1 x2 s0)))))))))
def rH (pu:Af) (n:Nat) (args:LV):OV:=
 (ll args none fun a0 args=>(ll args (oo (Bt a0) none fun l0=>(ll l0 none fun v0 l0=>(ll l0 none fun v1 l0=>(ll l0 none fun v2 l0=>(ll l0 none fun v3 l0=>(ll l0 (oo (Bi .i64 v0) none fun x0=>(oo (Bi .i64 v1) none fun x1=>(oo (Bi .i64 v2) none fun x2=>(oo (Bj 1 v3) none fun s0=>(uQ pu n x0 x1 x2 s0))))) fun _ _=>none)))))) fun _ _=>none))
theorem AbB (pu:Af) (n:Nat) (z0 z1 z2:Int) (s0:Sl) (n0 c0:Nat) (q0:LV) {v:Value} (hm:Qu pu n z0 z1 z2 s0 n0 c0 q0=some v):BN tt (Bb tabs isP pu (inl pu)) 2 UJ (fr 110 [(4,(pt 2 0))]) (hT 4 [(.cells Ay true false []),(oC [zI z0,zI z1,zI z2,Sl.v 1 s0,sc 3 0 1 n0 c0]),oC q0]) (Fin tt 2 [.tmp 2,.tmp 3] v):=by
 unfold Qu at hm
 refine .then (.rK ?_)
 replace hm:=Ae hm;obtain⟨h0,hm⟩:=hm
 refine .ghs (fr 110 [(2,(pt 2 0)),(3,(zI (0:Int)))]) (hT 4 [(.cells Ay true false []),(oC [zI z0,zI z1,zI z2,Sl.v 1 s0,sc 3 0 1 n0 c0]),oC q0]) (.k [3] [false,false] [.tmp 2 true,.cell 2 4 false] [2,3] ⟨A7 h0,trivial⟩) ?_
 replace hm:=Ae hm;obtain⟨h1,hm⟩:=hm
 refine .ghs (Fr.puts (fr 110 [(2,(pt 2 0)),(3,(zI (0:Int)))]) [(2,(Cv 0 ([zI z0,zI z1,zI z2,Sl.v 1 s0,(Sl.v 1 (Sl.mk n0 0 (Aq (n0*1) (Am 0 q0))))]:LV)))]) (hT 4 [(.cells Ay true false []),.dead,.dead]) (.frzC 2 2 4 [zI z0,zI z1,zI z2,Sl.v 1 s0,sc 3 0 1 n0 c0] (an (Nat.ble (0+n0*1) (len q0)) (Au Ah (Aq (n0*1) (Am 0 q0)))) (v:=(sc 3 0 1 n0 c0)) (v':=(Sl.v 1 (Sl.mk n0 0 (Aq (n0*1) (Am 0 q0))))) (H1:=(hT 4 [(.cells Ay true false []),(oC [zI z0,zI z1,zI z2,Sl.v 1 s0,sc 3 0 1 n0 c0]),.dead])) (imm:=false) (spent:=false) (anc:=[]) h1 (.frzP 2 2 2 0 ([zI z0,zI z1,zI z2,Sl.v 1 s0,(Sl.v 1 (Sl.mk n0 0 (Aq (n0*1) (Am 0 q0))))]:LV) true (anc:=[]) (by kernel_rfl) rfl (E9.id _ _))) ?_
 refine .ret ?_
 exact AO (.tuple ⟨[(Cv 0 ([zI z0,zI z1,zI z2,Sl.v 1 s0,(Sl.v 1 (Sl.mk n0 0 (Aq (n0*1) (Am 0 q0))))]:LV)),(zI (0:Int))]⟩) hm
theorem AbC (pu:Af) (n:Nat) (z0 z1 z2 z3:Int) (s0:Sl) (z4 z5 z6:Int) (s1:Sl) (n0 c0:Nat) (q0:LV) {v:Value} (hm:Qv pu n z0 z1 z2 z3 s0 z4 z5 z6 s1 n0 c0 q0=some v):BN tt (Bb tabs isP pu (inl pu)) 2 UK (fr 110 [(1,(pt 2 0)),(4,(pt 3 0)),(6,(zY z0))]) (hT 5 [(.cells Ay true false []),(oC [zI z1,zI z2,zI z3,Sl.v 1 s0]),(oC [zI z4,zI z5,zI z6,Sl.v 1 s1,sc 4 0 1 n0 c0]),oC q0]) (Fin tt 2 [.tmp 2,.tmp 3] v):=by
 unfold Qv at hm
 refine .then (.then (.rK ?_))
 replace hm:=Ae hm;obtain⟨h0,hm⟩:=hm
 refine .ghs (fr 110 [(1,(pt 2 0)),(4,(pt 3 0)),(6,(zY z0)),(81,(zB (Bd (Np .u8 z0 (1:Int)) (0:Int))))]) (hT 5 [(.cells Ay true false []),(oC [zI z1,zI z2,zI z3,Sl.v 1 s0]),(oC [zI z4,zI z5,zI z6,Sl.v 1 s1,sc 4 0 1 n0 c0]),oC q0]) (.k [4] [false,false] [.tmp 1 false,.tmp 4 true,.cell 3 4 false] [1,4,6,81] ⟨A7 h0,trivial⟩) ?_
 replace hm:=Ag hm;rcases hm with⟨h1,hm⟩ | ⟨h1,hm⟩
 ·refine BB (Bd (Np .u8 z0 (1:Int)) (0:Int)) h1 ?_
  refine .then (.rK (.ghs (fr 110 [(2,(.pointer none)),(3,(zI (21:Int)))]) (hT 2 [(.cells Ay true false [])]) (.k0 [false,false] [] [2,3]) ?_))
  refine .ret ?_
  exact AO (.tuple ⟨[(.pointer none),(zI (21:Int))]⟩) hm
 ·refine BI (Bd (Np .u8 z0 (1:Int)) (0:Int)) h1 ?_
  refine .skip (.ghs (fr 110 [(1,(pt 2 0)),(4,(pt 3 0)),(6,(zY z0))]) (hT 5 [(.cells Ay true false []),(oC [zI z1,zI z2,zI z3,Sl.v 1 s0]),(oC [zI z4,zI z5,zI z6,Sl.v 1 s1,sc 4 0 1 n0 c0]),oC q0]) (.k [4] [false,false] [.tmp 1 false,.tmp 4 true,.cell 3 4 false] [1,4,6] ⟨A7 h0,trivial⟩) ?_)
  refine .join (v:=v) (fun y:Int×Int×Int×Sl×Nat×Nat×LV=>((fr 110 [(4,(pt 2 0))]),(hT 4 [(.cells Ay true false []),(oC [(zI y.1),(zI y.2.1),(zI y.2.2.1),(Sl.v 1 y.2.2.2.1),(sc 3 0 1 y.2.2.2.2.1 y.2.2.2.2.2.1)]),(oC y.2.2.2.2.2.2)]))) (fun y=>Qu pu n y.1 y.2.1 y.2.2.1 y.2.2.2.1 y.2.2.2.2.1 y.2.2.2.2.2.1 y.2.2.2.2.2.2) ?_ ?_
  ·rintro⟨z7,z8,z9,s2,n1,c1,q1⟩ hm
   exact AbB pu n z7 z8 z9 s2 n1 c1 q1 hm
  ·refine .then (.rK (.ghs (fr 110 [(1,(pt 2 0)),(4,(pt 3 0)),(6,(zY z0)),(83,Sl.v 1 s0),(84,(zI (Int.ofNat (Sl.n s0)))),(85,(zI (0:Int)))]) (hT 5 [(.cells Ay true false []),(oC [zI z1,zI z2,zI z3,Sl.v 1 s0]),(oC [zI z4,zI z5,zI z6,Sl.v 1 s1,sc 4 0 1 n0 c0]),oC q0]) (.k [4] [false,false] [.tmp 1 false,.tmp 4 true,.cell 3 4 false] [1,4,6,83,84,85] ⟨A7 h0,trivial⟩) ?_))
   refine .block (.loopM (v:=v) (fun y:Int×Sl×Int×Int×Int×Int×Int×Sl×Int×Int×Int×Sl×Nat×Nat×LV=>((fr 110 [(1,(pt 2 0)),(4,(pt 3 0)),(6,(zY y.1)),(83,(Sl.v 1 y.2.1)),(84,(zI y.2.2.1)),(85,(zI y.2.2.2.1))]),(hT 5 [(.cells Ay true false []),(oC [(zI y.2.2.2.2.1),(zI y.2.2.2.2.2.1),(zI y.2.2.2.2.2.2.1),(Sl.v 1 y.2.2.2.2.2.2.2.1)]),(oC [(zI y.2.2.2.2.2.2.2.2.1),(zI y.2.2.2.2.2.2.2.2.2.1),(zI y.2.2.2.2.2.2.2.2.2.2.1),(Sl.v 1 y.2.2.2.2.2.2.2.2.2.2.2.1),(sc 4 0 1 y.2.2.2.2.2.2.2.2.2.2.2.2.1 y.2.2.2.2.2.2.2.2.2.2.2.2.2.1)]),(oC y.2.2.2.2.2.2.2.2.2.2.2.2.2.2)]))) (fun w y=>Jd pu n w y.1 y.2.1 y.2.2.1 y.2.2.2.1 y.2.2.2.2.1 y.2.2.2.2.2.1 y.2.2.2.2.2.2.1 y.2.2.2.2.2.2.2.1 y.2.2.2.2.2.2.2.2.1 y.2.2.2.2.2.2.2.2.2.1 y.2.2.2.2.2.2.2.2.2.2.1 y.2.2.2.2.2.2.2.2.2.2.2.1 y.2.2.2.2.2.2.2.2.2.2.2.2.1 y.2.2.2.2.2.2.2.2.2.2.2.2.2.1 y.2.2.2.2.2.2.2.2.2.2.2.2.2.2) n ⟨(z0,s0,(Int.ofNat (Sl.n s0)),(0:Int),z1,z2,z3,s0,z4,z5,z6,s1,n0,c0,q0),hm,(.k [4] [false,false] [.tmp 1 false,.tmp 4 true,.cell 3 4 false] [1,4,6,83,84,85] ⟨A7 h0,trivial⟩)⟩ (fun _=>rfl) ?_)
   rintro w0 ⟨z10,s3,z11,z12,z13,z14,z15,s4,z16,z17,z18,s5,n2,c2,q2⟩ hm
   replace hm:Ub pu n (Jd pu n w0) z10 s3 z11 z12 z13 z14 z15 s4 z16 z17 z18 s5 n2 c2 q2=some v:=hm
   unfold Ub at hm
   refine .then (.rK ?_)
   replace hm:=Ae hm;obtain⟨h2,hm⟩:=hm
   refine .ghs (fr 110 [(1,(pt 2 0)),(4,(pt 3 0)),(6,(zY z10)),(83,Sl.v 1 s3),(84,zI z11),(85,zI z12),(86,(zB (AY z12 z11)))]) (hT 5 [(.cells Ay true false []),(oC [zI z13,zI z14,zI z15,Sl.v 1 s4]),(oC [zI z16,zI z17,zI z18,Sl.v 1 s5,sc 4 0 1 n2 c2]),oC q2]) (.k [4] [false,false] [.tmp 1 false,.tmp 4 true,.cell 3 4 false] [1,4,6,83,84,85,86] ⟨A7 h2,trivial⟩) ?_
   refine .then ?_
   replace hm:=Ag hm;rcases hm with⟨h3,hm⟩ | ⟨h3,hm⟩
   ·refine BB (AY z12 z11) h3 ?_
    refine .skip (.ghs (fr 110 [(1,(pt 2 0)),(4,(pt 3 0)),(6,(zY z10)),(83,Sl.v 1 s3),(84,zI z11),(85,zI z12)]) (hT 5 [(.cells Ay true false []),(oC [zI z13,zI z14,zI z15,Sl.v 1 s4]),(oC [zI z16,zI z17,zI z18,Sl.v 1 s5,sc 4 0 1 n2 c2]),oC q2]) (.k [4] [false,false] [.tmp 1 false,.tmp 4 true,.cell 3 4 false] [1,4,6,83,84,85] ⟨A7 h2,trivial⟩) ?_)
    refine .join (v:=v) (fun y:Int×Sl×Int×Int×Int×Int×Int×Sl×Int×Int×Int×Sl×Nat×Nat×LV=>((fr 110 [(1,(pt 2 0)),(4,(pt 3 0)),(6,(zY y.1)),(83,(Sl.v 1 y.2.1)),(84,(zI y.2.2.1)),(85,(zI y.2.2.2.1))]),(hT 5 [(.cells Ay true false []),(oC [(zI y.2.2.2.2.1),(zI y.2.2.2.2.2.1),(zI y.2.2.2.2.2.2.1),(Sl.v 1 y.2.2.2.2.2.2.2.1)]),(oC [(zI y.2.2.2.2.2.2.2.2.1),(zI y.2.2.2.2.2.2.2.2.2.1),(zI y.2.2.2.2.2.2.2.2.2.2.1),(Sl.v 1 y.2.2.2.2.2.2.2.2.2.2.2.1),(sc 4 0 1 y.2.2.2.2.2.2.2.2.2.2.2.2.1 y.2.2.2.2.2.2.2.2.2.2.2.2.2.1)]),(oC y.2.2.2.2.2.2.2.2.2.2.2.2.2.2)]))) (fun y=>TV pu n (Jd pu n w0) y.1 y.2.1 y.2.2.1 y.2.2.2.1 y.2.2.2.2.1 y.2.2.2.2.2.1 y.2.2.2.2.2.2.1 y.2.2.2.2.2.2.2.1 y.2.2.2.2.2.2.2.2.1 y.2.2.2.2.2.2.2.2.2.1 y.2.2.2.2.2.2.2.2.2.2.1 y.2.2.2.2.2.2.2.2.2.2.2.1 y.2.2.2.2.2.2.2.2.2.2.2.2.1 y.2.2.2.2.2.2.2.2.2.2.2.2.2.1 y.2.2.2.2.2.2.2.2.2.2.2.2.2.2) ?_ ?_
    ·rintro⟨z19,s6,z20,z21,z22,z23,z24,s7,z25,z26,z27,s8,n3,c3,q3⟩ hm
     unfold TV at hm
     refine .rK ?_
     replace hm:=Ae hm;obtain⟨h4,hm⟩:=hm
     exact⟨(z19,s6,z20,(Aj .i64 (Int.add z21 (1:Int))),z22,z23,z24,s7,z25,z26,z27,s8,n3,c3,q3),hm,(.k [4] [false,false] [.tmp 1 false,.tmp 4 true,.cell 3 4 false] [1,4,6,83,84,85] ⟨A7 h4,trivial⟩)⟩
    ·refine .block (.then ?_)
     replace hm:=Ab hm;obtain⟨k1,h5,hm⟩:=hm
     obtain rfl:=AR h5
     replace hm:=Ae hm;obtain⟨h6,hm⟩:=hm
     replace hm:=Gs hm;obtain⟨x0,h7,hm⟩:=hm
     refine .reg (eD (keep (hT 5 [(.cells Ay true false []),(oC [zI z13,zI z14,zI z15,Sl.v 1 s4]),(oC [zI z16,zI z17,zI z18,Sl.v 1 s5,sc 4 0 1 n2 c2]),oC q2]) (bb (an (Nat.blt k1 (Sl.n s3)) true) (some (Cv (k1*1) (Sl.cs s3))) none)) (AX h6) (eD (keep (hT 5 [(.cells Ay true false []),(oC [zI z13,zI z14,zI z15,Sl.v 1 s4]),(oC [zI z16,zI z17,zI z18,Sl.v 1 s5,sc 4 0 1 n2 c2]),oC q2]) (AL (Sl.cs s3) (k1*1))) (AZ h7) (eE))) ?_
     refine .ghs (fr 110 [(1,(pt 2 0)),(4,(pt 3 0)),(6,(zY z10)),(10,zI x0),(83,Sl.v 1 s3),(84,zI z11),(85,(zI (Int.ofNat k1)))]) (hT 5 [(.cells Ay true false []),(oC [zI z13,zI z14,zI z15,Sl.v 1 s4]),(oC [zI z16,zI z17,zI z18,Sl.v 1 s5,sc 4 0 1 n2 c2]),oC q2]) (.k [4] [false,false] [.tmp 1 false,.tmp 4 true,.cell 3 4 false] [1,4,6,10,83,84,85] ⟨A7 h2,trivial⟩) ?_
     refine .then (.rK (.ghs (fr 110 [(1,(pt 2 0)),(4,(pt 3 0)),(6,(zY z10)),(10,zI x0),(83,Sl.v 1 s3),(84,zI z11),(85,(zI (Int.ofNat k1))),(90,Sl.v 1 s4),(91,(zI (Int.ofNat (Sl.n s4)))),(92,(zI (0:Int)))]) (hT 5 [(.cells Ay true false []),(oC [zI z13,zI z14,zI z15,Sl.v 1 s4]),(oC [zI z16,zI z17,zI z18,Sl.v 1 s5,sc 4 0 1 n2 c2]),oC q2]) (.k [4] [false,false] [.tmp 1 false,.tmp 4 true,.cell 3 4 false] [1,4,6,10,83,84,85,90,91,92] ⟨A7 h2,trivial⟩) ?_))
     refine .block (.loopM (v:=v) (fun y:Int×Int×Sl×Int×Int×Sl×Int×Int×Int×Int×Int×Sl×Int×Int×Int×Sl×Nat×Nat×LV=>((fr 110 [(1,(pt 2 0)),(4,(pt 3 0)),(6,(zY y.1)),(10,(zI y.2.1)),(83,(Sl.v 1 y.2.2.1)),(84,(zI y.2.2.2.1)),(85,(zI y.2.2.2.2.1)),(90,(Sl.v 1 y.2.2.2.2.2.1)),(91,(zI y.2.2.2.2.2.2.1)),(92,(zI y.2.2.2.2.2.2.2.1))]),(hT 5 [(.cells Ay true false []),(oC [(zI y.2.2.2.2.2.2.2.2.1),(zI y.2.2.2.2.2.2.2.2.2.1),(zI y.2.2.2.2.2.2.2.2.2.2.1),(Sl.v 1 y.2.2.2.2.2.2.2.2.2.2.2.1)]),(oC [(zI y.2.2.2.2.2.2.2.2.2.2.2.2.1),(zI y.2.2.2.2.2.2.2.2.2.2.2.2.2.1),(zI y.2.2.2.2.2.2.2.2.2.2.2.2.2.2.1),(Sl.v 1 y.2.2.2.2.2.2.2.2.2.2.2.2.2.2.2.1),(sc 4 0 1 y.2.2.2.2.2.2.2.2.2.2.2.2.2.2.2.2.1 y.2.2.2.2.2.2.2.2.2.2.2.2.2.2.2.2.2.1)]),(oC y.2.2.2.2.2.2.2.2.2.2.2.2.2.2.2.2.2.2)]))) (fun w y=>Ua pu n (Jd pu n w0) w y.1 y.2.1 y.2.2.1 y.2.2.2.1 y.2.2.2.2.1 y.2.2.2.2.2.1 y.2.2.2.2.2.2.1 y.2.2.2.2.2.2.2.1 y.2.2.2.2.2.2.2.2.1 y.2.2.2.2.2.2.2.2.2.1 y.2.2.2.2.2.2.2.2.2.2.1 y.2.2.2.2.2.2.2.2.2.2.2.1 y.2.2.2.2.2.2.2.2.2.2.2.2.1 y.2.2.2.2.2.2.2.2.2.2.2.2.2.1 y.2.2.2.2.2.2.2.2.2.2.2.2.2.2.1 y.2.2.2.2.2.2.2.2.2.2.2.2.2.2.2.1 y.2.2.2.2.2.2.2.2.2.2.2.2.2.2.2.2.1 y.2.2.2.2.2.2.2.2.2.2.2.2.2.2.2.2.2.1 y.2.2.2.2.2.2.2.2.2.2.2.2.2.2.2.2.2.2) n ⟨(z10,x0,s3,z11,(Int.ofNat k1),s4,(Int.ofNat (Sl.n s4)),(0:Int),z13,z14,z15,s4,z16,z17,z18,s5,n2,c2,q2),hm,(.k [4] [false,false] [.tmp 1 false,.tmp 4 true,.cell 3 4 false] [1,4,6,10,83,84,85,90,91,92] ⟨A7 h2,trivial⟩)⟩ (fun _=>rfl) ?_)
     rintro w1 ⟨z28,z29,s9,z30,z31,s10,z32,z33,z34,z35,z36,s11,z37,z38,z39,s12,n4,c5,q4⟩ hm
     replace hm:TW pu n (Jd pu n w0) (Ua pu n (Jd pu n w0) w1) z28 z29 s9 z30 z31 s10 z32 z33 z34 z35 z36 s11 z37 z38 z39 s12 n4 c5 q4=some v:=hm
     unfold TW at hm
     refine .then (.rK ?_)
     replace hm:=Ae hm;obtain⟨h8,hm⟩:=hm
     refine .ghs (fr 110 [(1,(pt 2 0)),(4,(pt 3 0)),(6,(zY z28)),(10,zI z29),(83,Sl.v 1 s9),(84,zI z30),(85,zI z31),(90,Sl.v 1 s10),(91,zI z32),(92,zI z33),(93,(zB (AY z33 z32)))]) (hT 5 [(.cells Ay true false []),(oC [zI z34,zI z35,zI z36,Sl.v 1 s11]),(oC [zI z37,zI z38,zI z39,Sl.v 1 s12,sc 4 0 1 n4 c5]),oC q4]) (.k [4] [false,false] [.tmp 1 false,.tmp 4 true,.cell 3 4 false] [1,4,6,10,83,84,85,90,91,92,93] ⟨A7 h8,trivial⟩) ?_
     refine .then ?_
     replace hm:=Ag hm;rcases hm with⟨h9,hm⟩ | ⟨h9,hm⟩
     ·refine BB (AY z33 z32) h9 ?_
      refine .skip (.ghs (fr 110 [(1,(pt 2 0)),(4,(pt 3 0)),(6,(zY z28)),(10,zI z29),(83,Sl.v 1 s9),(84,zI z30),(85,zI z31),(90,Sl.v 1 s10),(91,zI z32),(92,zI z33)]) (hT 5 [(.cells Ay true false []),(oC [zI z34,zI z35,zI z36,Sl.v 1 s11]),(oC [zI z37,zI z38,zI z39,Sl.v 1 s12,sc 4 0 1 n4 c5]),oC q4]) (.k [4] [false,false] [.tmp 1 false,.tmp 4 true,.cell 3 4 false] [1,4,6,10,83,84,85,90,91,92] ⟨A7 h8,trivial⟩) ?_)
      refine .then (.block (.then ?_))
      replace hm:=Ab hm;obtain⟨k2,h10,hm⟩:=hm
      obtain rfl:=AR h10
      replace hm:=Ae hm;obtain⟨h11,hm⟩:=hm
      replace hm:=Gs hm;obtain⟨x1,h12,hm⟩:=hm
      refine .reg (eD (keep (hT 5 [(.cells Ay true false []),(oC [zI z34,zI z35,zI z36,Sl.v 1 s11]),(oC [zI z37,zI z38,zI z39,Sl.v 1 s12,sc 4 0 1 n4 c5]),oC q4]) (bb (an (Nat.blt k2 (Sl.n s10)) true) (some (Cv (k2*1) (Sl.cs s10))) none)) (AX h11) (eD (keep (hT 5 [(.cells Ay true false []),(oC [zI z34,zI z35,zI z36,Sl.v 1 s11]),(oC [zI z37,zI z38,zI z39,Sl.v 1 s12,sc 4 0 1 n4 c5]),oC q4]) (AL (Sl.cs s10) (k2*1))) (AZ h12) (eE))) ?_
      refine .ghs (fr 110 [(1,(pt 2 0)),(4,(pt 3 0)),(6,(zY z28)),(10,zI z29),(12,zI x1),(83,Sl.v 1 s9),(84,zI z30),(85,zI z31),(90,Sl.v 1 s10),(91,zI z32),(92,(zI (Int.ofNat k2)))]) (hT 5 [(.cells Ay true false []),(oC [zI z34,zI z35,zI z36,Sl.v 1 s11]),(oC [zI z37,zI z38,zI z39,Sl.v 1 s12,sc 4 0 1 n4 c5]),oC q4]) (.k [4] [false,false] [.tmp 1 false,.tmp 4 true,.cell 3 4 false] [1,4,6,10,12,83,84,85,90,91,92] ⟨A7 h8,trivial⟩) ?_
      refine .then ?_
      replace hm:=Ab hm;obtain⟨v0,h13,hm⟩:=hm
      replace hm:=BG hm;obtain⟨l0,rfl,hm⟩:=hm
      replace hm:=Ad hm;obtain⟨v1,l9431_0,rfl,hm⟩:=hm
      replace hm:=Ad hm;obtain⟨v2,l9431_1,rfl,hm⟩:=hm
      replace hm:=AC hm;obtain⟨rfl,hm⟩:=hm
      replace hm:=Ai hm;obtain⟨x2,rfl,hm⟩:=hm
      replace hm:=Be hm;obtain⟨b0,rfl,hm⟩:=hm
      replace hm:=Ab hm;obtain⟨v3,h14,hm⟩:=hm
      replace hm:=BG hm;obtain⟨l1,rfl,hm⟩:=hm
      replace hm:=Ad hm;obtain⟨v4,l9441_0,rfl,hm⟩:=hm
      replace hm:=Ad hm;obtain⟨v5,l9441_1,rfl,hm⟩:=hm
      replace hm:=AC hm;obtain⟨rfl,hm⟩:=hm
      replace hm:=Ai hm;obtain⟨x3,rfl,hm⟩:=hm
      replace hm:=Be hm;obtain⟨b1,rfl,hm⟩:=hm
      replace hm:=Ab hm;obtain⟨v6,h15,hm⟩:=hm
      replace hm:=BG hm;obtain⟨l2,rfl,hm⟩:=hm
      replace hm:=Ad hm;obtain⟨v7,l9451_0,rfl,hm⟩:=hm
      replace hm:=Ad hm;obtain⟨v8,l9451_1,rfl,hm⟩:=hm
      replace hm:=AC hm;obtain⟨rfl,hm⟩:=hm
      replace hm:=Ai hm;obtain⟨x4,rfl,hm⟩:=hm
      replace hm:=Be hm;obtain⟨b2,rfl,hm⟩:=hm
      replace hm:=Gs hm;obtain⟨x5,h16,hm⟩:=hm
      refine .reg (eC 1 ((oo (pu 164 [zI z29]) none fun v=>some (v,(hT 5 [(.cells Ay true false []),(oC [zI z34,zI z35,zI z36,Sl.v 1 s11]),(oC [zI z37,zI z38,zI z39,Sl.v 1 s12,sc 4 0 1 n4 c5]),oC q4])))) (AB h13) (eC 1 ((oo (pu 164 [zI x1]) none fun v=>some (v,(hT 5 [(.cells Ay true false []),(oC [zI z34,zI z35,zI z36,Sl.v 1 s11]),(oC [zI z37,zI z38,zI z39,Sl.v 1 s12,sc 4 0 1 n4 c5]),oC q4])))) (AB h14) (eD ((oo (pu 166 [(.agg ⟨[zI x2,zB b0]⟩),(.agg ⟨[zI x3,zB b1]⟩)]) none fun v=>some (v,(hT 5 [(.cells Ay true false []),(oC [zI z34,zI z35,zI z36,Sl.v 1 s11]),(oC [zI z37,zI z38,zI z39,Sl.v 1 s12,sc 4 0 1 n4 c5]),oC q4])))) (AB h15) (eD ((oo (pu 167 [(.agg ⟨[zI x4,zB b2]⟩)]) none fun v=>some (v,(hT 5 [(.cells Ay true false []),(oC [zI z34,zI z35,zI z36,Sl.v 1 s11]),(oC [zI z37,zI z38,zI z39,Sl.v 1 s12,sc 4 0 1 n4 c5]),oC q4])))) (AB h16) (eE))))) ?_
      refine .ghs (fr 110 [(1,(pt 2 0)),(4,(pt 3 0)),(6,(zY z28)),(10,zI z29),(13,zI x5),(83,Sl.v 1 s9),(84,zI z30),(85,zI z31),(90,Sl.v 1 s10),(91,zI z32),(92,(zI (Int.ofNat k2)))]) (hT 5 [(.cells Ay true false []),(oC [zI z34,zI z35,zI z36,Sl.v 1 s11]),(oC [zI z37,zI z38,zI z39,Sl.v 1 s12,sc 4 0 1 n4 c5]),oC q4]) (.k [4] [false,false] [.tmp 1 false,.tmp 4 true,.cell 3 4 false] [1,4,6,10,13,83,84,85,90,91,92] ⟨A7 h8,trivial⟩) ?_
      refine .then ?_
      replace hm:=Ab hm;obtain⟨k3,h17,hm⟩:=hm
      obtain rfl:=AR h17
      refine .rK (.ghs (fr 110 [(1,(pt 2 0)),(4,(pt 3 0)),(6,(zY z28)),(10,zI z29),(83,Sl.v 1 s9),(84,zI z30),(85,zI z31),(90,Sl.v 1 s10),(91,zI z32),(92,(zI (Int.ofNat k2))),(106,(zB (Bd (Np .u8 (G6 .u8 z28 k3) (1:Int)) (0:Int))))]) (hT 5 [(.cells Ay true false []),(oC [zI z34,zI z35,zI z36,Sl.v 1 s11]),(oC [zI z37,zI z38,zI z39,Sl.v 1 s12,sc 4 0 1 n4 c5]),oC q4]) (.k [4] [false,false] [.tmp 1 false,.tmp 4 true,.cell 3 4 false] [1,4,6,10,83,84,85,90,91,92,106] ⟨A7 h8,trivial⟩) ?_)
      replace hm:=Ag hm;rcases hm with⟨h18,hm⟩ | ⟨h18,hm⟩
      ·refine BB (Bd (Np .u8 (G6 .u8 z28 k3) (1:Int)) (0:Int)) h18 ?_
       refine .then (.rK (.ghs (fr 110 [(2,(.pointer none)),(3,(zI (21:Int)))]) (hT 2 [(.cells Ay true false [])]) (.k0 [false,false] [] [2,3]) ?_))
       refine .ret ?_
       exact AO (.tuple ⟨[(.pointer none),(zI (21:Int))]⟩) hm
      ·refine BI (Bd (Np .u8 (G6 .u8 z28 k3) (1:Int)) (0:Int)) h18 ?_
       refine .skip (.ghs (fr 110 [(1,(pt 2 0)),(4,(pt 3 0)),(6,(zY z28)),(10,zI z29),(83,Sl.v 1 s9),(84,zI z30),(85,zI z31),(90,Sl.v 1 s10),(91,zI z32),(92,(zI (Int.ofNat k2)))]) (hT 5 [(.cells Ay true false []),(oC [zI z34,zI z35,zI z36,Sl.v 1 s11]),(oC [zI z37,zI z38,zI z39,Sl.v 1 s12,sc 4 0 1 n4 c5]),oC q4]) (.k [4] [false,false] [.tmp 1 false,.tmp 4 true,.cell 3 4 false] [1,4,6,10,83,84,85,90,91,92] ⟨A7 h8,trivial⟩) ?_)
       refine .rK ?_
       exact⟨(z28,z29,s9,z30,z31,s10,z32,(Aj .i64 (Int.add (Int.ofNat k2) (1:Int))),z34,z35,z36,s11,z37,z38,z39,s12,n4,c5,q4),hm,(.k [4] [false,false] [.tmp 1 false,.tmp 4 true,.cell 3 4 false] [1,4,6,10,83,84,85,90,91,92] ⟨A7 h8,trivial⟩)⟩
     ·refine BI (AY z33 z32) h9 ?_
      refine .exit ?_
      exact⟨(z28,s9,z30,z31,z34,z35,z36,s11,z37,z38,z39,s12,n4,c5,q4),hm,(.k [4] [false,false] [.tmp 1 false,.tmp 4 true,.cell 3 4 false] [1,4,6,83,84,85] ⟨A7 h8,trivial⟩)⟩
   ·refine BI (AY z12 z11) h3 ?_
    refine .exit ?_
    exact⟨(z16,z17,z18,s5,n2,c2,q2),hm,(.k [4] [false,false] [.tmp 4 true,.cell 2 4 false] [4] ⟨A7 h2,trivial⟩)⟩
theorem AjG {call:A8} (pu:Af) (n:Nat) (hcall:call=Bb tabs isP pu (inl pu)) {args:LV} {v:Value} (hm:rH pu n args=some v) (_:∀ x∈args,closed2 x=true):args.length≤110∧BN tt call 2 K6 (Fr.made 110 args) (Ao tabs) (Fin tt 2 [.tmp 2,.tmp 3] v):=by
 subst hcall
 unfold rH at hm
 replace hm:=Ad hm;obtain⟨a0,args_0,rfl,hm⟩:=hm
 replace hm:=AC hm;obtain⟨rfl,hm⟩:=hm
 replace hm:=BG hm;obtain⟨l0,rfl,hm⟩:=hm
 replace hm:=Ad hm;obtain⟨v0,l7666_0,rfl,hm⟩:=hm
 replace hm:=Ad hm;obtain⟨v1,l7666_1,rfl,hm⟩:=hm
 replace hm:=Ad hm;obtain⟨v2,l7666_2,rfl,hm⟩:=hm
 replace hm:=Ad hm;obtain⟨v3,l7666_3,rfl,hm⟩:=hm
 replace hm:=AC hm;obtain⟨rfl,hm⟩:=hm
 replace hm:=Ai hm;obtain⟨x0,rfl,hm⟩:=hm
 replace hm:=Ai hm;obtain⟨x1,rfl,hm⟩:=hm
 replace hm:=Ai hm;obtain⟨x2,rfl,hm⟩:=hm
 replace hm:=Al hm;obtain⟨s0,rfl,hm⟩:=hm
 unfold uQ at hm
 refine⟨by simp,?_⟩
 refine .same (F':=(fr 110 [(0,(.agg ⟨[zI x0,zI x1,zI x2,Sl.v 1 s0]⟩))])) (H':=(hT 2 [(.cells Ay true false [])])) (by kernel_rfl) (by kernel_rfl) ?_
 refine .then (.rK (.ghs (fr 110 [(1,(pt 2 0))]) (hT 3 [(.cells Ay true false []),(oC [zI x0,zI x1,zI x2,Sl.v 1 s0])]) (.k0 [false,false] [.tmp 1 false] [1]) ?_))
 refine .then (.join (v:=v) (fun y:Bool×Int×Int×Int×Sl=>((fr 110 [(1,(pt 2 0)),(29,(zB y.1))]),(hT 3 [(.cells Ay true false []),(oC [(zI y.2.1),(zI y.2.2.1),(zI y.2.2.2.1),(Sl.v 1 y.2.2.2.2)])]))) (fun y=>M8 pu n y.1 y.2.1 y.2.2.1 y.2.2.2.1 y.2.2.2.2) ?_ ?_)
 ·rintro⟨b0,z0,z1,z2,s1⟩ hm
  unfold M8 at hm
  replace hm:=Ag hm;rcases hm with⟨h0,hm⟩ | ⟨h0,hm⟩
  ·refine .ifT b0 (by kernel_rfl) h0 ?_
   refine .then (.rK (.ghs (fr 110 [(2,(.pointer none)),(3,(zI (1:Int)))]) (hT 2 [(.cells Ay true false [])]) (.k0 [false,false] [] [2,3]) ?_))
   refine .ret ?_
   exact AO (.tuple ⟨[(.pointer none),(zI (1:Int))]⟩) hm
  ·refine .ifF b0 (by kernel_rfl) h0 ?_
   refine .skip (.ghs (fr 110 [(1,(pt 2 0))]) (hT 3 [(.cells Ay true false []),(oC [zI z0,zI z1,zI z2,Sl.v 1 s1])]) (.k0 [false,false] [.tmp 1 false] [1]) ?_)
   refine .then (.rK (.ghs (fr 110 [(1,(pt 2 0)),(4,(pt 3 0))]) (hT 4 [(.cells Ay true false []),(oC [zI z0,zI z1,zI z2,Sl.v 1 s1]),(oC [zI z0,zI z1,zI z2,Sl.v 1 s1,(.slice none 0 0)])]) (.k0 [false,false] [.tmp 1 false,.tmp 4 false] [1,4]) ?_))
   refine .then (.rK (.ghs (fr 110 [(1,(pt 2 0)),(4,(pt 3 0)),(5,(zI (-1:Int)))]) (hT 4 [(.cells Ay true false []),(oC [zI z0,zI z1,zI z2,Sl.v 1 s1]),(oC [zI z0,zI z1,zI z2,Sl.v 1 s1,(.slice none 0 0)])]) (.k0 [false,false] [.tmp 1 false,.tmp 4 false] [1,4,5]) ?_))
   refine .then (.rK (.ghs (fr 110 [(1,(pt 2 0)),(4,(pt 3 0)),(5,(zI (-1:Int))),(6,(zY (0:Int)))]) (hT 4 [(.cells Ay true false []),(oC [zI z0,zI z1,zI z2,Sl.v 1 s1]),(oC [zI z0,zI z1,zI z2,Sl.v 1 s1,(.slice none 0 0)])]) (.k0 [false,false] [.tmp 1 false,.tmp 4 false] [1,4,5,6]) ?_))
   refine .join (v:=v) (fun y:Int×Int×Int×Int×Sl×Int×Int×Int×Sl×Nat×Nat×LV=>((fr 110 [(1,(pt 2 0)),(4,(pt 3 0)),(6,(zY y.1))]),(hT 5 [(.cells Ay true false []),(oC [(zI y.2.1),(zI y.2.2.1),(zI y.2.2.2.1),(Sl.v 1 y.2.2.2.2.1)]),(oC [(zI y.2.2.2.2.2.1),(zI y.2.2.2.2.2.2.1),(zI y.2.2.2.2.2.2.2.1),(Sl.v 1 y.2.2.2.2.2.2.2.2.1),(sc 4 0 1 y.2.2.2.2.2.2.2.2.2.1 y.2.2.2.2.2.2.2.2.2.2.1)]),(oC y.2.2.2.2.2.2.2.2.2.2.2)]))) (fun y=>Qv pu n y.1 y.2.1 y.2.2.1 y.2.2.2.1 y.2.2.2.2.1 y.2.2.2.2.2.1 y.2.2.2.2.2.2.1 y.2.2.2.2.2.2.2.1 y.2.2.2.2.2.2.2.2.1 y.2.2.2.2.2.2.2.2.2.1 y.2.2.2.2.2.2.2.2.2.2.1 y.2.2.2.2.2.2.2.2.2.2.2) ?_ ?_
   ·rintro⟨z3,z4,z5,z6,s2,z7,z8,z9,s3,n0,c0,q0⟩ hm
    exact AbC pu n z3 z4 z5 z6 s2 z7 z8 z9 s3 n0 c0 q0 hm
   ·refine .then (.rK (.ghs (fr 110 [(1,(pt 2 0)),(4,(pt 3 0)),(5,(zI (-1:Int))),(6,(zY (0:Int))),(34,Sl.v 1 s1),(35,(zI (Int.ofNat (Sl.n s1)))),(36,(zI (0:Int)))]) (hT 4 [(.cells Ay true false []),(oC [zI z0,zI z1,zI z2,Sl.v 1 s1]),(oC [zI z0,zI z1,zI z2,Sl.v 1 s1,(.slice none 0 0)])]) (.k0 [false,false] [.tmp 1 false,.tmp 4 false] [1,4,5,6,34,35,36]) ?_))
    refine .block (.loopM (v:=v) (fun y:Int×Int×Sl×Int×Int×Int×Int×Int×Sl×Int×Int×Int×Sl×Nat×Nat×LV=>((fr 110 [(1,(pt 2 0)),(4,(pt 3 0)),(5,(zI y.1)),(6,(zY y.2.1)),(34,(Sl.v 1 y.2.2.1)),(35,(zI y.2.2.2.1)),(36,(zI y.2.2.2.2.1))]),(hT 5 [(.cells Ay true false []),(oC [(zI y.2.2.2.2.2.1),(zI y.2.2.2.2.2.2.1),(zI y.2.2.2.2.2.2.2.1),(Sl.v 1 y.2.2.2.2.2.2.2.2.1)]),(oC [(zI y.2.2.2.2.2.2.2.2.2.1),(zI y.2.2.2.2.2.2.2.2.2.2.1),(zI y.2.2.2.2.2.2.2.2.2.2.2.1),(Sl.v 1 y.2.2.2.2.2.2.2.2.2.2.2.2.1),(sc 4 0 1 y.2.2.2.2.2.2.2.2.2.2.2.2.2.1 y.2.2.2.2.2.2.2.2.2.2.2.2.2.2.1)]),(oC y.2.2.2.2.2.2.2.2.2.2.2.2.2.2.2)]))) (fun w y=>Qz pu n w y.1 y.2.1 y.2.2.1 y.2.2.2.1 y.2.2.2.2.1 y.2.2.2.2.2.1 y.2.2.2.2.2.2.1 y.2.2.2.2.2.2.2.1 y.2.2.2.2.2.2.2.2.1 y.2.2.2.2.2.2.2.2.2.1 y.2.2.2.2.2.2.2.2.2.2.1 y.2.2.2.2.2.2.2.2.2.2.2.1 y.2.2.2.2.2.2.2.2.2.2.2.2.1 y.2.2.2.2.2.2.2.2.2.2.2.2.2.1 y.2.2.2.2.2.2.2.2.2.2.2.2.2.2.1 y.2.2.2.2.2.2.2.2.2.2.2.2.2.2.2) n ⟨((-1:Int),(0:Int),s1,(Int.ofNat (Sl.n s1)),(0:Int),z0,z1,z2,s1,z0,z1,z2,s1,0,0,([]:LV)),hm,(.thawC 3 4 1 [zI z0,zI z1,zI z2,Sl.v 1 s1,(.slice none 0 0)] (imm:=false) (spent:=false) (anc:=[]) (by kernel_rfl) (by kernel_rfl) (by kernel_rfl) (by kernel_rfl) (.k0 [false,false] [.tmp 1 false,.tmp 4 true,.cell 3 4 false] [1,4,5,6,34,35,36]))⟩ (fun _=>rfl) ?_)
    rintro w0 ⟨z10,z11,s4,z12,z13,z14,z15,z16,s5,z17,z18,z19,s6,n1,c1,q1⟩ hm
    replace hm:Ud pu n (Qz pu n w0) z10 z11 s4 z12 z13 z14 z15 z16 s5 z17 z18 z19 s6 n1 c1 q1=some v:=hm
    unfold Ud at hm
    refine .then (.rK ?_)
    replace hm:=Ae hm;obtain⟨h1,hm⟩:=hm
    refine .ghs (fr 110 [(1,(pt 2 0)),(4,(pt 3 0)),(5,zI z10),(6,(zY z11)),(34,Sl.v 1 s4),(35,zI z12),(36,zI z13),(37,(zB (AY z13 z12)))]) (hT 5 [(.cells Ay true false []),(oC [zI z14,zI z15,zI z16,Sl.v 1 s5]),(oC [zI z17,zI z18,zI z19,Sl.v 1 s6,sc 4 0 1 n1 c1]),oC q1]) (.k [4] [false,false] [.tmp 1 false,.tmp 4 true,.cell 3 4 false] [1,4,5,6,34,35,36,37] ⟨A7 h1,trivial⟩) ?_
    refine .then ?_
    replace hm:=Ag hm;rcases hm with⟨h2,hm⟩ | ⟨h2,hm⟩
    ·refine BB (AY z13 z12) h2 ?_
     refine .skip (.ghs (fr 110 [(1,(pt 2 0)),(4,(pt 3 0)),(5,zI z10),(6,(zY z11)),(34,Sl.v 1 s4),(35,zI z12),(36,zI z13)]) (hT 5 [(.cells Ay true false []),(oC [zI z14,zI z15,zI z16,Sl.v 1 s5]),(oC [zI z17,zI z18,zI z19,Sl.v 1 s6,sc 4 0 1 n1 c1]),oC q1]) (.k [4] [false,false] [.tmp 1 false,.tmp 4 true,.cell 3 4 false] [1,4,5,6,34,35,36] ⟨A7 h1,trivial⟩) ?_)
     refine .then (.block (.then ?_))
     replace hm:=Ab hm;obtain⟨k1,h3,hm⟩:=hm
     obtain rfl:=AR h3
     replace hm:=Ae hm;obtain⟨h4,hm⟩:=hm
     replace hm:=Gs hm;obtain⟨x3,h5,hm⟩:=hm
     refine .reg (eD (keep (hT 5 [(.cells Ay true false []),(oC [zI z14,zI z15,zI z16,Sl.v 1 s5]),(oC [zI z17,zI z18,zI z19,Sl.v 1 s6,sc 4 0 1 n1 c1]),oC q1]) (bb (an (Nat.blt k1 (Sl.n s4)) true) (some (Cv (k1*1) (Sl.cs s4))) none)) (AX h4) (eD (keep (hT 5 [(.cells Ay true false []),(oC [zI z14,zI z15,zI z16,Sl.v 1 s5]),(oC [zI z17,zI z18,zI z19,Sl.v 1 s6,sc 4 0 1 n1 c1]),oC q1]) (AL (Sl.cs s4) (k1*1))) (AZ h5) (eE))) ?_
     refine .ghs (fr 110 [(1,(pt 2 0)),(4,(pt 3 0)),(5,zI z10),(6,(zY z11)),(8,zI x3),(34,Sl.v 1 s4),(35,zI z12),(36,(zI (Int.ofNat k1)))]) (hT 5 [(.cells Ay true false []),(oC [zI z14,zI z15,zI z16,Sl.v 1 s5]),(oC [zI z17,zI z18,zI z19,Sl.v 1 s6,sc 4 0 1 n1 c1]),oC q1]) (.k [4] [false,false] [.tmp 1 false,.tmp 4 true,.cell 3 4 false] [1,4,5,6,8,34,35,36] ⟨A7 h1,trivial⟩) ?_
     refine .then (.block (.then ?_))
     replace hm:=Yn hm;obtain⟨b1,h6,hm⟩:=hm
     refine .reg (eC 1 ((oo (pu 96 [(zI (0:Int)),zI x3,(zI (7:Int))]) none fun v=>some (v,(hT 5 [(.cells Ay true false []),(oC [zI z14,zI z15,zI z16,Sl.v 1 s5]),(oC [zI z17,zI z18,zI z19,Sl.v 1 s6,sc 4 0 1 n1 c1]),oC q1])))) (AB h6) (eE)) ?_
     refine .ghs (fr 110 [(1,(pt 2 0)),(4,(pt 3 0)),(5,zI z10),(6,(zY z11)),(8,zI x3),(34,Sl.v 1 s4),(35,zI z12),(36,(zI (Int.ofNat k1))),(40,(zB (nt b1)))]) (hT 5 [(.cells Ay true false []),(oC [zI z14,zI z15,zI z16,Sl.v 1 s5]),(oC [zI z17,zI z18,zI z19,Sl.v 1 s6,sc 4 0 1 n1 c1]),oC q1]) (.k [4] [false,false] [.tmp 1 false,.tmp 4 true,.cell 3 4 false] [1,4,5,6,8,34,35,36,40] ⟨A7 h1,trivial⟩) ?_
     replace hm:=Ag hm;rcases hm with⟨h7,hm⟩ | ⟨h7,hm⟩
     ·refine BB (nt b1) h7 ?_
      refine .then (.rK (.ghs (fr 110 [(2,(.pointer none)),(3,(zI (2:Int)))]) (hT 2 [(.cells Ay true false [])]) (.k0 [false,false] [] [2,3]) ?_))
      refine .ret ?_
      exact AO (.tuple ⟨[(.pointer none),(zI (2:Int))]⟩) hm
     ·refine BI (nt b1) h7 ?_
      refine .join (v:=v) (fun y:Int×Int×Int×Sl×Int×Int×Bool×Int×Int×Int×Sl×Int×Int×Int×Sl×Nat×Nat×LV=>((fr 110 [(1,(pt 2 0)),(4,(pt 3 0)),(5,(zI y.1)),(6,(zY y.2.1)),(8,(zI y.2.2.1)),(34,(Sl.v 1 y.2.2.2.1)),(35,(zI y.2.2.2.2.1)),(36,(zI y.2.2.2.2.2.1)),(44,(zB y.2.2.2.2.2.2.1))]),(hT 5 [(.cells Ay true false []),(oC [(zI y.2.2.2.2.2.2.2.1),(zI y.2.2.2.2.2.2.2.2.1),(zI y.2.2.2.2.2.2.2.2.2.1),(Sl.v 1 y.2.2.2.2.2.2.2.2.2.2.1)]),(oC [(zI y.2.2.2.2.2.2.2.2.2.2.2.1),(zI y.2.2.2.2.2.2.2.2.2.2.2.2.1),(zI y.2.2.2.2.2.2.2.2.2.2.2.2.2.1),(Sl.v 1 y.2.2.2.2.2.2.2.2.2.2.2.2.2.2.1),(sc 4 0 1 y.2.2.2.2.2.2.2.2.2.2.2.2.2.2.2.1 y.2.2.2.2.2.2.2.2.2.2.2.2.2.2.2.2.1)]),(oC y.2.2.2.2.2.2.2.2.2.2.2.2.2.2.2.2.2)]))) (fun y=>Qw pu n (Qz pu n w0) y.1 y.2.1 y.2.2.1 y.2.2.2.1 y.2.2.2.2.1 y.2.2.2.2.2.1 y.2.2.2.2.2.2.1 y.2.2.2.2.2.2.2.1 y.2.2.2.2.2.2.2.2.1 y.2.2.2.2.2.2.2.2.2.1 y.2.2.2.2.2.2.2.2.2.2.1 y.2.2.2.2.2.2.2.2.2.2.2.1 y.2.2.2.2.2.2.2.2.2.2.2.2.1 y.2.2.2.2.2.2.2.2.2.2.2.2.2.1 y.2.2.2.2.2.2.2.2.2.2.2.2.2.2.1 y.2.2.2.2.2.2.2.2.2.2.2.2.2.2.2.1 y.2.2.2.2.2.2.2.2.2.2.2.2.2.2.2.2.1 y.2.2.2.2.2.2.2.2.2.2.2.2.2.2.2.2.2) ?_ ?_
      ·rintro⟨z20,z21,z22,s7,z23,z24,b2,z25,z26,z27,s8,z28,z29,z30,s9,n2,c2,q2⟩ hm
       unfold Qw at hm
       replace hm:=Ag hm;rcases hm with⟨h8,hm⟩ | ⟨h8,hm⟩
       ·refine .ifT b2 (by kernel_rfl) h8 ?_
        refine .then (.rK (.ghs (fr 110 [(2,(.pointer none)),(3,(zI (8:Int)))]) (hT 2 [(.cells Ay true false [])]) (.k0 [false,false] [] [2,3]) ?_))
        refine .ret ?_
        exact AO (.tuple ⟨[(.pointer none),(zI (8:Int))]⟩) hm
       ·refine .ifF b2 (by kernel_rfl) h8 ?_
        refine .then (.rK ?_)
        replace hm:=Ae hm;obtain⟨h9,hm⟩:=hm
        refine .ghs (fr 110 [(1,(pt 2 0)),(4,(pt 3 0)),(6,(zY z21)),(8,zI z22),(34,Sl.v 1 s7),(35,zI z23),(36,zI z24),(57,(zB (nt (AY z20 z22))))]) (hT 5 [(.cells Ay true false []),(oC [zI z25,zI z26,zI z27,Sl.v 1 s8]),(oC [zI z28,zI z29,zI z30,Sl.v 1 s9,sc 4 0 1 n2 c2]),oC q2]) (.k [4] [false,false] [.tmp 1 false,.tmp 4 true,.cell 3 4 false] [1,4,6,8,34,35,36,57] ⟨A7 h9,trivial⟩) ?_
        replace hm:=Ag hm;rcases hm with⟨h10,hm⟩ | ⟨h10,hm⟩
        ·refine BB (nt (AY z20 z22)) h10 ?_
         refine .then (.rK (.ghs (fr 110 [(2,(.pointer none)),(3,(zI (7:Int)))]) (hT 2 [(.cells Ay true false [])]) (.k0 [false,false] [] [2,3]) ?_))
         refine .ret ?_
         exact AO (.tuple ⟨[(.pointer none),(zI (7:Int))]⟩) hm
        ·refine BI (nt (AY z20 z22)) h10 ?_
         refine .skip (.ghs (fr 110 [(1,(pt 2 0)),(4,(pt 3 0)),(6,(zY z21)),(8,zI z22),(34,Sl.v 1 s7),(35,zI z23),(36,zI z24)]) (hT 5 [(.cells Ay true false []),(oC [zI z25,zI z26,zI z27,Sl.v 1 s8]),(oC [zI z28,zI z29,zI z30,Sl.v 1 s9,sc 4 0 1 n2 c2]),oC q2]) (.k [4] [false,false] [.tmp 1 false,.tmp 4 true,.cell 3 4 false] [1,4,6,8,34,35,36] ⟨A7 h9,trivial⟩) ?_)
         refine .then (.rK (.ghs (fr 110 [(1,(pt 2 0)),(4,(pt 3 0)),(5,zI z22),(6,(zY z21)),(8,zI z22),(34,Sl.v 1 s7),(35,zI z23),(36,zI z24)]) (hT 5 [(.cells Ay true false []),(oC [zI z25,zI z26,zI z27,Sl.v 1 s8]),(oC [zI z28,zI z29,zI z30,Sl.v 1 s9,sc 4 0 1 n2 c2]),oC q2]) (.k [4] [false,false] [.tmp 1 false,.tmp 4 true,.cell 3 4 false] [1,4,5,6,8,34,35,36] ⟨A7 h9,trivial⟩) ?_))
         refine .then ?_
         replace hm:=Ab hm;obtain⟨k2,h11,hm⟩:=hm
         obtain rfl:=AR h11
         refine .rK (.ghs (fr 110 [(1,(pt 2 0)),(4,(pt 3 0)),(5,(zI (Int.ofNat k2))),(6,(zY (jF .u8 z21 (QW .u8 (1:Int) k2)))),(8,(zI (Int.ofNat k2))),(34,Sl.v 1 s7),(35,zI z23),(36,zI z24)]) (hT 5 [(.cells Ay true false []),(oC [zI z25,zI z26,zI z27,Sl.v 1 s8]),(oC [zI z28,zI z29,zI z30,Sl.v 1 s9,sc 4 0 1 n2 c2]),oC q2]) (.k [4] [false,false] [.tmp 1 false,.tmp 4 true,.cell 3 4 false] [1,4,5,6,8,34,35,36] ⟨A7 h9,trivial⟩) ?_)
         replace hm:=Sa hm;obtain⟨s10,h12,hm⟩:=hm
         replace hm:=Ae hm;obtain⟨h13,hm⟩:=hm
         refine .reg (eC 7 ((oo (pu 165 [(.agg ⟨[zI z25,zI z26,zI z27,Sl.v 1 s8]⟩),(zI (Int.ofNat k2))]) none fun v=>some (v,(hT 5 [(.cells Ay true false []),(oC [zI z25,zI z26,zI z27,Sl.v 1 s8]),(oC [zI z28,zI z29,zI z30,Sl.v 1 s9,sc 4 0 1 n2 c2]),oC q2])))) (AB h12) (eC 1 (Oc 1 24 n2 c2 1 4 q2 [Sl.v 1 s10] [] (hT 6 [(.cells Ay true false []),(oC [zI z25,zI z26,zI z27,Sl.v 1 s8]),(oC [zI z28,zI z29,zI z30,Sl.v 1 s9,sc 4 0 1 n2 c2]),oC q2,(oC [Sl.v 1 s10])])) (I1 h13) (eE))) ?_
         replace hm:=Ae hm;obtain⟨h14,hm⟩:=hm
         refine .ghs (fr 110 [(1,(pt 2 0)),(4,(pt 3 0)),(5,(zI (Int.ofNat k2))),(6,(zY (jF .u8 z21 (QW .u8 (1:Int) k2)))),(34,Sl.v 1 s7),(35,zI z23),(36,zI z24)]) (hT 5 [(.cells Ay true false []),(oC [zI z25,zI z26,zI z27,Sl.v 1 s8]),(oC [zI z28,zI z29,zI z30,Sl.v 1 s9,(sc 4 0 1 (n2+1) (d2 (n2+1)))]),(oC (Br (Am 0 q2) [Sl.v 1 s10]))]) (.k [6] [false,false] [.tmp 1 false,.tmp 4 true,.cell 3 4 false] [1,4,5,6,34,35,36] ⟨A7 h14,trivial⟩) ?_
         refine .rK ?_
         exact⟨((Int.ofNat k2),(jF .u8 z21 (QW .u8 (1:Int) k2)),s7,z23,(Aj .i64 (Int.add z24 (1:Int))),z25,z26,z27,s8,z28,z29,z30,s9,(n2+1),(d2 (n2+1)),(Br (Am 0 q2) [Sl.v 1 s10])),hm,(.k [4] [false,false] [.tmp 1 false,.tmp 4 true,.cell 3 4 false] [1,4,5,6,34,35,36] ⟨A7 h14,trivial⟩)⟩
      ·replace hm:=Ag hm;rcases hm with⟨h15,hm⟩ | ⟨h15,hm⟩
       ·replace hm:=Ab hm;obtain⟨v4,h16,hm⟩:=hm
        replace hm:=BG hm;obtain⟨l1,rfl,hm⟩:=hm
        replace hm:=Ad hm;obtain⟨v5,l9713_0,rfl,hm⟩:=hm
        replace hm:=Ad hm;obtain⟨v6,l9713_1,rfl,hm⟩:=hm
        replace hm:=AC hm;obtain⟨rfl,hm⟩:=hm
        replace hm:=Ai hm;obtain⟨x4,rfl,hm⟩:=hm
        replace hm:=Be hm;obtain⟨b3,rfl,hm⟩:=hm
        refine .reg (eC 4 (some ((zB (nt (Bd z14 z15))),(hT 5 [(.cells Ay true false []),(oC [zI z14,zI z15,zI z16,Sl.v 1 s5]),(oC [zI z17,zI z18,zI z19,Sl.v 1 s6,sc 4 0 1 n1 c1]),oC q1]))) (show _=some ((zB true),_) from (by rw[show (nt (Bd z14 z15))=true from h15])) (eC 2 ((oo (pu 164 [zI x3]) none fun v=>some (v,(hT 5 [(.cells Ay true false []),(oC [zI z14,zI z15,zI z16,Sl.v 1 s5]),(oC [zI z17,zI z18,zI z19,Sl.v 1 s6,sc 4 0 1 n1 c1]),oC q1])))) (AB h16) (eE))) ?_
        exact⟨(z10,z11,x3,s4,z12,(Int.ofNat k1),(Bd (Int.tmod x4 (2:Int)) (1:Int)),z14,z15,z16,s5,z17,z18,z19,s6,n1,c1,q1),hm,(.k [4] [false,false] [.tmp 1 false,.tmp 4 true,.cell 3 4 false] [1,4,5,6,8,34,35,36,44] ⟨A7 h1,trivial⟩)⟩
       ·refine .reg (eC 4 (some ((zB (nt (Bd z14 z15))),(hT 5 [(.cells Ay true false []),(oC [zI z14,zI z15,zI z16,Sl.v 1 s5]),(oC [zI z17,zI z18,zI z19,Sl.v 1 s6,sc 4 0 1 n1 c1]),oC q1]))) (show _=some ((zB false),_) from (by rw[show (nt (Bd z14 z15))=false from h15])) (eE)) ?_
        exact⟨(z10,z11,x3,s4,z12,(Int.ofNat k1),false,z14,z15,z16,s5,z17,z18,z19,s6,n1,c1,q1),hm,(.k [4] [false,false] [.tmp 1 false,.tmp 4 true,.cell 3 4 false] [1,4,5,6,8,34,35,36,44] ⟨A7 h1,trivial⟩)⟩
    ·refine BI (AY z13 z12) h2 ?_
     refine .exit ?_
     exact⟨(z11,z14,z15,z16,s5,z17,z18,z19,s6,n1,c1,q1),hm,(.k [4] [false,false] [.tmp 1 false,.tmp 4 true,.cell 3 4 false] [1,4,6] ⟨A7 h1,trivial⟩)⟩
 ·replace hm:=Yn hm;obtain⟨b5,h17,hm⟩:=hm
  replace hm:=Ag hm;rcases hm with⟨h18,hm⟩ | ⟨h18,hm⟩
  ·refine .reg (eC 2 ((oo (pu 96 [(zI (1:Int)),zI x0,(zI (4:Int))]) none fun v=>some (v,(hT 3 [(.cells Ay true false []),(oC [zI x0,zI x1,zI x2,Sl.v 1 s0])])))) (AB h17) (eD (some ((zB (nt b5)),(hT 3 [(.cells Ay true false []),(oC [zI x0,zI x1,zI x2,Sl.v 1 s0])]))) (show _=some ((zB true),_) from (by rw[show (nt b5)=true from h18])) (eE))) ?_
   exact⟨(true,x0,x1,x2,s0),hm,(.k0 [false,false] [.tmp 1 false] [1,29])⟩
  ·replace hm:=Yn hm;obtain⟨b6,h19,hm⟩:=hm
   replace hm:=Ag hm;rcases hm with⟨h20,hm⟩ | ⟨h20,hm⟩
   ·refine .reg (eC 2 ((oo (pu 96 [(zI (1:Int)),zI x0,(zI (4:Int))]) none fun v=>some (v,(hT 3 [(.cells Ay true false []),(oC [zI x0,zI x1,zI x2,Sl.v 1 s0])])))) (AB h17) (eD (some ((zB (nt b5)),(hT 3 [(.cells Ay true false []),(oC [zI x0,zI x1,zI x2,Sl.v 1 s0])]))) (show _=some ((zB false),_) from (by rw[show (nt b5)=false from h18])) (eC 3 ((oo (pu 96 [(zI (1:Int)),zI x1,(zI (4:Int))]) none fun v=>some (v,(hT 3 [(.cells Ay true false []),(oC [zI x0,zI x1,zI x2,Sl.v 1 s0])])))) (AB h19) (eD (some ((zB (nt b6)),(hT 3 [(.cells Ay true false []),(oC [zI x0,zI x1,zI x2,Sl.v 1 s0])]))) (show _=some ((zB true),_) from (by rw[show (nt b6)=true from h20])) (eE))))) ?_
    exact⟨(true,x0,x1,x2,s0),hm,(.k0 [false,false] [.tmp 1 false] [1,29])⟩
   ·replace hm:=Yn hm;obtain⟨b7,h21,hm⟩:=hm
    refine .reg (eC 2 ((oo (pu 96 [(zI (1:Int)),zI x0,(zI (4:Int))]) none fun v=>some (v,(hT 3 [(.cells Ay true false []),(oC [zI x0,zI x1,zI x2,Sl.v 1 s0])])))) (AB h17) (eD (some ((zB (nt b5)),(hT 3 [(.cells Ay true false []),(oC [zI x0,zI x1,zI x2,Sl.v 1 s0])]))) (show _=some ((zB false),_) from (by rw[show (nt b5)=false from h18])) (eC 3 ((oo (pu 96 [(zI (1:Int)),zI x1,(zI (4:Int))]) none fun v=>some (v,(hT 3 [(.cells Ay true false []),(oC [zI x0,zI x1,zI x2,Sl.v 1 s0])])))) (AB h19) (eD (some ((zB (nt b6)),(hT 3 [(.cells Ay true false []),(oC [zI x0,zI x1,zI x2,Sl.v 1 s0])]))) (show _=some ((zB false),_) from (by rw[show (nt b6)=false from h20])) (eC 4 ((oo (pu 96 [(zI (1:Int)),zI x2,(zI (4:Int))]) none fun v=>some (v,(hT 3 [(.cells Ay true false []),(oC [zI x0,zI x1,zI x2,Sl.v 1 s0])])))) (AB h21) (eE)))))) ?_
    exact⟨((nt b7),x0,x1,x2,s0),hm,(.k0 [false,false] [.tmp 1 false] [1,29])⟩
end
end Go.TpEM
