/- Made from wip. -/
import Derived.Test.YtglnihplphhhoaaDoorTbGMod1x
import Derived.Test.YtglnihplphhhoaaDoorTbGMod2

set_option maxRecDepth 100000
set_option maxHeartbeats 20000000
set_option linter.unusedVariables false
namespace Go.TbGM
open Go.Sp Go.TbG
noncomputable section
def OB (pu:Af) (n n0 c0:Nat) (q0:LV):OV:=
 (bb (Au Ah q0) (bb (an (Nat.ble (0+n0*1) (len q0)) (Au Ah (Aq (n0*1) (Am 0 q0)))) (some (Sl.v 1 (Sl.mk n0 0 (Aq (n0*1) (Am 0 q0))))) none) none)
def O7 (pu:Af) (n:Nat) (ih0:Int→Int→Nat→Nat→Int→Int→LV→OV) (z0 z1:Int) (n0 c0:Nat) (z2 z3:Int) (q0:LV):OV:=
 (bb (Au Ah q0) (bb (AY z3 z2) (oo (EA (Aj .i64 (Int.sub (Aj .i64 (Int.sub z0 (1:Int))) z3))) none fun k1=>(oo (EA z3) none fun k2=>(bb (an (Nat.blt k2 n0) true) (bb (an (Nat.ble ((0+k2*1)+1) (len q0)) true) (bb (Au Ah (BM ([(.int .i64 (Np .i64 (G6 .i64 z1 k1) (1:Int)))]:LV) (0+k2*1) q0)) (ih0 z0 z1 n0 c0 z2 (Aj .i64 (Int.add (Int.ofNat k2) (1:Int))) (BM ([(.int .i64 (Np .i64 (G6 .i64 z1 k1) (1:Int)))]:LV) (0+k2*1) q0)) none) none) none))) (OB pu n n0 c0 q0)) none)
def O8 (pu:Af) (n w:Nat):Int→Int→Nat→Nat→Int→Int→LV→OV:=
 Nat.rec (motive:=fun _=>Int→Int→Nat→Nat→Int→Int→LV→OV) (fun _ _ _ _ _ _ _=>none) (fun _ ih0=>O7 pu n ih0) w
def YC (pu:Af) (n:Nat) (x0 x1:Int):OV:=
 (oo (EA x0) none fun k1=>(bb (an (Nat.ble k1 k1) (an (Nat.ble (k1*8) 1099511627776) (an (Nat.ble k1 1099511627776) true))) (bb (Au Ah (AF ([(.int .i64 (0:Int))]:LV) k1)) (O8 pu n n (Int.ofNat k1) x1 k1 (2*k1+bb true 1 0) (Int.ofNat k1) (0:Int) (AF ([(.int .i64 (0:Int))]:LV) k1)) none) none))
def iM (pu:Af) (n:Nat) (args:LV):OV:=
 (ll args none fun a0 args=>(ll args none fun a1 args=>(ll args (oo (Bi .i64 a0) none fun x0=>(oo (Bi .i64 a1) none fun x1=>(YC pu n x0 x1))) fun _ _=>none)))
theorem Zt (pu:Af) (n n0 c0:Nat) (q0:LV) {v:Value} (hm:OB pu n n0 c0 q0=some v):BN tt (Bb tabs Eo pu (inl pu)) 1 OY (fr 26 [(5,sc 1 0 1 n0 c0)]) (hT 2 [oC q0]) (Fin tt 1 [.tmp 4] v):=by
 unfold OB at hm
 refine .then (.rK ?_)
 replace hm:=Ae hm;obtain⟨h0,hm⟩:=hm
 refine .ghs (fr 26 [(4,sc 1 0 1 n0 c0)]) (hT 2 [oC q0]) (.k [1] [false] [.tmp 4 false] [4] ⟨BI h0,trivial⟩) ?_
 replace hm:=Ae hm;obtain⟨h1,hm⟩:=hm
 refine .ghs (Fr.puts (fr 26 [(4,sc 1 0 1 n0 c0)]) [(4,(Sl.v 1 (Sl.mk n0 0 (Aq (n0*1) (Am 0 q0)))))]) (hT 2 [.dead]) (.freezeC 1 4 1 (an (Nat.ble (0+n0*1) (len q0)) (Au Ah (Aq (n0*1) (Am 0 q0)))) (F1:=(Fr.puts (fr 26 [(4,sc 1 0 1 n0 c0)]) [(4,(Sl.v 1 (Sl.mk n0 0 (Aq (n0*1) (Am 0 q0)))))])) (H1:=(hT 2 [.dead])) (by kernel_rfl) (by kernel_rfl) h1 (E9.id _ _)) ?_
 refine .ret ?_
 exact Bp (Sl.v 1 (Sl.mk n0 0 (Aq (n0*1) (Am 0 q0)))) hm
theorem rM {call:A8} (pu:Af) (n:Nat) (hcall:call=Bb tabs Eo pu (inl pu)) {args:LV} {v:Value} (hm:iM pu n args=some v) (_:∀ x∈args,closed2 x=true):args.length≤26∧BN tt call 1 Kg (Fr.made 26 args) (Ao tabs) (Fin tt 1 [.tmp 4] v):=by
 subst hcall
 unfold iM at hm
 replace hm:=Ad hm;obtain⟨a0,args_0,rfl,hm⟩:=hm
 replace hm:=Ad hm;obtain⟨a1,args_1,rfl,hm⟩:=hm
 replace hm:=AC hm;obtain⟨rfl,hm⟩:=hm
 replace hm:=Ai hm;obtain⟨x0,rfl,hm⟩:=hm
 replace hm:=Ai hm;obtain⟨x1,rfl,hm⟩:=hm
 unfold YC at hm
 refine⟨by simp,?_⟩
 refine .same (F':=(fr 26 [(0,zI x0),(1,zI x1)])) (H':=Bq) (by kernel_rfl) (by kernel_rfl) ?_
 refine .then (.rK (.ghs (fr 26 [(0,zI x0),(1,zI x1)]) Bq (.k0 [false] [] [0,1]) ?_))
 refine .then ?_
 replace hm:=Ab hm;obtain⟨k1,h0,hm⟩:=hm
 obtain rfl:=AR h0
 replace hm:=Ae hm;obtain⟨h1,hm⟩:=hm
 refine .reg (eC 1 (bb (an (Nat.ble k1 k1) (an (Nat.ble (k1*8) 1099511627776) (an (Nat.ble k1 1099511627776) true))) (some ((sc 1 0 1 k1 (2*k1+bb true 1 0)),(hT 2 [(oC (AF ([(zI (0:Int))]:LV) k1))]))) none) (kH h1) (eE)) ?_
 replace hm:=Ae hm;obtain⟨h2,hm⟩:=hm
 refine .ghs (fr 26 [(0,(zI (Int.ofNat k1))),(1,zI x1),(5,(sc 1 0 1 k1 (2*k1+bb true 1 0)))]) (hT 2 [(oC (AF ([(zI (0:Int))]:LV) k1))]) (.k [1] [false] [.tmp 5 false] [0,1,5] ⟨BI h2,trivial⟩) ?_
 refine .join (v:=v) (fun y:Nat×Nat×LV=>((fr 26 [(5,(sc 1 0 1 y.1 y.2.1))]),(hT 2 [(oC y.2.2)]))) (fun y=>OB pu n y.1 y.2.1 y.2.2) ?_ ?_
 ·rintro⟨n0,c0,q0⟩ hm
  exact Zt pu n n0 c0 q0 hm
 ·refine .then (.rK (.ghs (fr 26 [(0,(zI (Int.ofNat k1))),(1,zI x1),(5,(sc 1 0 1 k1 (2*k1+bb true 1 0))),(10,(zI (Int.ofNat k1))),(11,(zI (0:Int)))]) (hT 2 [(oC (AF ([(zI (0:Int))]:LV) k1))]) (.k [1] [false] [.tmp 5 false] [0,1,5,10,11] ⟨BI h2,trivial⟩) ?_))
  refine .block (.loopM (v:=v) (fun y:Int×Int×Nat×Nat×Int×Int×LV=>((fr 26 [(0,(zI y.1)),(1,(zI y.2.1)),(5,(sc 1 0 1 y.2.2.1 y.2.2.2.1)),(10,(zI y.2.2.2.2.1)),(11,(zI y.2.2.2.2.2.1))]),(hT 2 [(oC y.2.2.2.2.2.2)]))) (fun w y=>O8 pu n w y.1 y.2.1 y.2.2.1 y.2.2.2.1 y.2.2.2.2.1 y.2.2.2.2.2.1 y.2.2.2.2.2.2) n ⟨((Int.ofNat k1),x1,k1,(2*k1+bb true 1 0),(Int.ofNat k1),(0:Int),(AF ([(zI (0:Int))]:LV) k1)),hm,(.k [1] [false] [.tmp 5 false] [0,1,5,10,11] ⟨BI h2,trivial⟩)⟩ (fun _=>rfl) ?_)
  rintro w0 ⟨z0,z1,n1,c1,z2,z3,q1⟩ hm
  replace hm:O7 pu n (O8 pu n w0) z0 z1 n1 c1 z2 z3 q1=some v:=hm
  unfold O7 at hm
  refine .then (.rK ?_)
  replace hm:=Ae hm;obtain⟨h3,hm⟩:=hm
  refine .ghs (fr 26 [(0,zI z0),(1,zI z1),(5,sc 1 0 1 n1 c1),(10,zI z2),(11,zI z3),(12,(zB (AY z3 z2)))]) (hT 2 [oC q1]) (.k [1] [false] [.tmp 5 false] [0,1,5,10,11,12] ⟨BI h3,trivial⟩) ?_
  refine .then ?_
  replace hm:=Ag hm;rcases hm with⟨h4,hm⟩ | ⟨h4,hm⟩
  ·refine C8 (AY z3 z2) h4 ?_
   refine .skip (.ghs (fr 26 [(0,zI z0),(1,zI z1),(5,sc 1 0 1 n1 c1),(10,zI z2),(11,zI z3)]) (hT 2 [oC q1]) (.k [1] [false] [.tmp 5 false] [0,1,5,10,11] ⟨BI h3,trivial⟩) ?_)
   refine .then (.block (.then (.rK (.ghs (fr 26 [(0,zI z0),(1,zI z1),(5,sc 1 0 1 n1 c1),(6,zI z3),(10,zI z2),(11,zI z3)]) (hT 2 [oC q1]) (.k [1] [false] [.tmp 5 false] [0,1,5,6,10,11] ⟨BI h3,trivial⟩) ?_))))
   replace hm:=Ab hm;obtain⟨k2,h5,hm⟩:=hm
   replace hm:=Ab hm;obtain⟨k3,h6,hm⟩:=hm
   obtain rfl:=AR h6
   replace hm:=Ae hm;obtain⟨h7,hm⟩:=hm
   replace hm:=Ae hm;obtain⟨h8,hm⟩:=hm
   refine .reg (eC 6 (some ((zI (Aj .i64 (Int.sub (Aj .i64 (Int.sub z0 (1:Int))) (Int.ofNat k3)))),(hT 2 [oC q1]))) (show _=some ((zI (Int.ofNat k2)),_) from (by rw[AR h5])) (eC 2 (keep (hT 2 [oC q1]) (bb (an (Nat.blt k3 n1) true) (some (.pointer (some ⟨1,(0+k3*1),none⟩))) none)) (AX h7) (eD (done (bb (an (Nat.ble ((0+k3*1)+1) (len q1)) true) (some (hT 2 [(oC (BM ([(zI (Np .i64 (G6 .i64 z1 k2) (1:Int)))]:LV) (0+k3*1) q1))])) none) undef) (Js h8) (eE)))) ?_
   replace hm:=Ae hm;obtain⟨h9,hm⟩:=hm
   refine .ghs (fr 26 [(0,zI z0),(1,zI z1),(5,sc 1 0 1 n1 c1),(10,zI z2),(11,(zI (Int.ofNat k3)))]) (hT 2 [(oC (BM ([(zI (Np .i64 (G6 .i64 z1 k2) (1:Int)))]:LV) (0+k3*1) q1))]) (.k [1] [false] [.tmp 5 false] [0,1,5,10,11] ⟨BI h9,trivial⟩) ?_
   refine .rK ?_
   exact⟨(z0,z1,n1,c1,z2,(Aj .i64 (Int.add (Int.ofNat k3) (1:Int))),(BM ([(zI (Np .i64 (G6 .i64 z1 k2) (1:Int)))]:LV) (0+k3*1) q1)),hm,(.k [1] [false] [.tmp 5 false] [0,1,5,10,11] ⟨BI h9,trivial⟩)⟩
  ·refine Dn (AY z3 z2) h4 ?_
   refine .exit ?_
   exact⟨(n1,c1,q1),hm,(.k [1] [false] [.tmp 5 false] [5] ⟨BI h3,trivial⟩)⟩
def OC (pu:Af) (n:Nat):OV:=
 (some (.int .i64 (-1:Int)))
def Iq (pu:Af) (n:Nat) (ih0:Sl→Int→Int→Int→OV) (s0:Sl) (z0 z1 z2:Int):OV:=
 (bb (AY z2 z1) (oo (EA z2) none fun k1=>(bb (an (Nat.blt k1 (Sl.n s0)) true) (oo (AL (Sl.cs s0) (k1*1)) none fun v0=>(oo (Bi .i64 v0) none fun x0=>(bb (Bd z0 x0) (some (.int .i64 (Int.ofNat k1))) (ih0 s0 z0 z1 (Aj .i64 (Int.add (Int.ofNat k1) (1:Int))))))) none)) (OC pu n))
def Ir (pu:Af) (n w:Nat):Sl→Int→Int→Int→OV:=
 Nat.rec (motive:=fun _=>Sl→Int→Int→Int→OV) (fun _ _ _ _=>none) (fun _ ih0=>Iq pu n ih0) w
def Zu (pu:Af) (n:Nat) (s0:Sl) (x0:Int):OV:=
 (Ir pu n n s0 x0 (Int.ofNat (Sl.n s0)) (0:Int))
def iN (pu:Af) (n:Nat) (args:LV):OV:=
 (ll args none fun a0 args=>(ll args none fun a1 args=>(ll args (oo (Bj 1 a0) none fun s0=>(oo (Bi .i64 a1) none fun x0=>(Zu pu n s0 x0))) fun _ _=>none)))
theorem Zv (pu:Af) (n:Nat) {v:Value} (hm:OC pu n=some v):BN tt (Bb tabs Eo pu (inl pu)) 1 OZ (fr 19 []) Bq (Fin tt 1 [.tmp 4] v):=by
 unfold OC at hm
 refine .then (.rK (.ghs (fr 19 [(4,(zI (-1:Int)))]) Bq (.k0 [false] [] [4]) ?_))
 refine .ret ?_
 exact Bp (zI (-1:Int)) hm
theorem rO {call:A8} (pu:Af) (n:Nat) (hcall:call=Bb tabs Eo pu (inl pu)) {args:LV} {v:Value} (hm:iN pu n args=some v) (_:∀ x∈args,closed2 x=true):args.length≤19∧BN tt call 1 Kh (Fr.made 19 args) (Ao tabs) (Fin tt 1 [.tmp 4] v):=by
 subst hcall
 unfold iN at hm
 replace hm:=Ad hm;obtain⟨a0,args_0,rfl,hm⟩:=hm
 replace hm:=Ad hm;obtain⟨a1,args_1,rfl,hm⟩:=hm
 replace hm:=AC hm;obtain⟨rfl,hm⟩:=hm
 replace hm:=Al hm;obtain⟨s0,rfl,hm⟩:=hm
 replace hm:=Ai hm;obtain⟨x0,rfl,hm⟩:=hm
 unfold Zu at hm
 refine⟨by simp,?_⟩
 refine .same (F':=(fr 19 [(0,Sl.v 1 s0),(1,zI x0)])) (H':=Bq) (by kernel_rfl) (by kernel_rfl) ?_
 refine .then (.rK (.ghs (fr 19 [(0,Sl.v 1 s0),(1,zI x0)]) Bq (.k0 [false] [] [0,1]) ?_))
 refine .join (v:=v) (fun y:Unit=>((fr 19 []),Bq)) (fun y=>OC pu n) ?_ ?_
 ·rintro _ hm
  exact Zv pu n hm
 ·refine .then (.rK (.ghs (fr 19 [(0,Sl.v 1 s0),(1,zI x0),(7,(zI (Int.ofNat (Sl.n s0)))),(8,(zI (0:Int)))]) Bq (.k0 [false] [] [0,1,7,8]) ?_))
  refine .block (.loopM (v:=v) (fun y:Sl×Int×Int×Int=>((fr 19 [(0,(Sl.v 1 y.1)),(1,(zI y.2.1)),(7,(zI y.2.2.1)),(8,(zI y.2.2.2))]),Bq)) (fun w y=>Ir pu n w y.1 y.2.1 y.2.2.1 y.2.2.2) n ⟨(s0,x0,(Int.ofNat (Sl.n s0)),(0:Int)),hm,(.k0 [false] [] [0,1,7,8])⟩ (fun _=>rfl) ?_)
  rintro w0 ⟨s1,z0,z1,z2⟩ hm
  replace hm:Iq pu n (Ir pu n w0) s1 z0 z1 z2=some v:=hm
  unfold Iq at hm
  refine .then (.rK (.ghs (fr 19 [(0,Sl.v 1 s1),(1,zI z0),(7,zI z1),(8,zI z2),(9,(zB (AY z2 z1)))]) Bq (.k0 [false] [] [0,1,7,8,9]) ?_))
  refine .then ?_
  replace hm:=Ag hm;rcases hm with⟨h0,hm⟩ | ⟨h0,hm⟩
  ·refine C8 (AY z2 z1) h0 ?_
   refine .skip (.ghs (fr 19 [(0,Sl.v 1 s1),(1,zI z0),(7,zI z1),(8,zI z2)]) Bq (.k0 [false] [] [0,1,7,8]) ?_)
   refine .then (.block (.then (.rK (.ghs (fr 19 [(0,Sl.v 1 s1),(1,zI z0),(5,zI z2),(7,zI z1),(8,zI z2)]) Bq (.k0 [false] [] [0,1,5,7,8]) ?_))))
   refine .then ?_
   replace hm:=Ab hm;obtain⟨k1,h1,hm⟩:=hm
   obtain rfl:=AR h1
   replace hm:=Ae hm;obtain⟨h2,hm⟩:=hm
   replace hm:=Jg hm;obtain⟨x1,h3,hm⟩:=hm
   refine .reg (eC 3 (keep Bq (bb (an (Nat.blt k1 (Sl.n s1)) true) (some (Cv (k1*1) (Sl.cs s1))) none)) (AX h2) (eD (keep Bq (AL (Sl.cs s1) (k1*1))) (AZ h3) (eE))) ?_
   refine .ghs (fr 19 [(0,Sl.v 1 s1),(1,zI z0),(5,(zI (Int.ofNat k1))),(7,zI z1),(8,(zI (Int.ofNat k1))),(16,(zB (Bd z0 x1)))]) Bq (.k0 [false] [] [0,1,5,7,8,16]) ?_
   replace hm:=Ag hm;rcases hm with⟨h4,hm⟩ | ⟨h4,hm⟩
   ·refine C8 (Bd z0 x1) h4 ?_
    refine .then (.rK (.ghs (fr 19 [(4,(zI (Int.ofNat k1)))]) Bq (.k0 [false] [] [4]) ?_))
    refine .ret ?_
    exact Bp (zI (Int.ofNat k1)) hm
   ·refine Dn (Bd z0 x1) h4 ?_
    refine .skip (.ghs (fr 19 [(0,Sl.v 1 s1),(1,zI z0),(7,zI z1),(8,(zI (Int.ofNat k1)))]) Bq (.k0 [false] [] [0,1,7,8]) ?_)
    refine .rK ?_
    exact⟨(s1,z0,z1,(Aj .i64 (Int.add (Int.ofNat k1) (1:Int)))),hm,(.k0 [false] [] [0,1,7,8])⟩
  ·refine Dn (AY z2 z1) h0 ?_
   refine .exit ?_
   exact⟨(),hm,(.k0 [false] [] [])⟩

def Qz (pu:Af) (n:Nat) (x0:Int):OV:=
 (some (.bool (nt (Bd x0 x0))))
def iO (pu:Af) (n:Nat) (args:LV):OV:=
 (ll args none fun a0 args=>(ll args (oo (Bi .i64 a0) none fun x0=>(Qz pu n x0)) fun _ _=>none))
theorem rP {call:A8} (pu:Af) (n:Nat) (hcall:call=Bb tabs Eo pu (inl pu)) {args:LV} {v:Value} (hm:iO pu n args=some v) (_:∀ x∈args,closed2 x=true):args.length≤6∧BN tt call 1 Ox (Fr.made 6 args) (Ao tabs) (Fin tt 1 [.tmp 2] v):=by
 subst hcall
 unfold iO at hm
 replace hm:=Ad hm;obtain⟨a0,args_0,rfl,hm⟩:=hm
 replace hm:=AC hm;obtain⟨rfl,hm⟩:=hm
 replace hm:=Ai hm;obtain⟨x0,rfl,hm⟩:=hm
 unfold Qz at hm
 refine⟨by simp,?_⟩
 refine .same (F':=(fr 6 [(0,zI x0)])) (H':=Bq) (by kernel_rfl) (by kernel_rfl) ?_
 refine .then (.rK (.ghs (fr 6 [(0,zI x0)]) Bq (.k0 [false] [] [0]) ?_))
 refine .then (.rK (.ghs (fr 6 [(2,(zB (nt (Bd x0 x0))))]) Bq (.k0 [false] [] [2]) ?_))
 refine .ret ?_
 exact Bp (zB (nt (Bd x0 x0))) hm

def Gm (pu:Af) (n:Nat) (z36 z37 z38:Int) (s39:Sl) (b40:Bool):OV:=
 (oo (pu 10150 [(Sl.v 1 (Sl.mk 0 2 [])),(.pointer (some ⟨1,0,none⟩)),(.pointer (some ⟨2,0,none⟩)),(.pointer (some ⟨3,0,none⟩)),(.agg ⟨[.int .i64 z36]⟩),(.agg ⟨[(.func (.func 12) ⟨[]⟩ ⟨[(.pointer (some ⟨4,0,none⟩)),(.pointer (some ⟨5,0,none⟩)),(.pointer (some ⟨6,0,none⟩))]⟩)]⟩),(.agg ⟨[(.func (.func 15) ⟨[]⟩ ⟨[(.pointer (some ⟨1,0,none⟩)),(.pointer (some ⟨2,0,none⟩)),(.pointer (some ⟨3,0,none⟩))]⟩)]⟩),(.agg ⟨[.int .i64 z37]⟩),(.agg ⟨[.int .i64 z38,(Sl.v 2 s39)]⟩),(.agg ⟨[(.bool b40)]⟩)]) none fun v0=>(oo (CQ v0) none fun l0=>(ll l0 none fun v1 l0=>(ll l0 none fun v2 l0=>(ll l0 none fun v3 l0=>(ll l0 none fun v4 l0=>(ll l0 none fun v5 l0=>(ll l0 none fun v6 l0=>(ll l0 none fun v7 l0=>(ll l0 (bb (MC v1) (oo (Bt v2) none fun l1=>(ll l1 none fun v8 l1=>(ll l1 (oo (Bi .i64 v8) none fun x0=>(oo (Bt v3) none fun l2=>(ll l2 none fun v9 l2=>(ll l2 (oo (Om 12 0 v9) none fun l3=>(ll l3 none fun v10 l3=>(ll l3 none fun v11 l3=>(ll l3 none fun v12 l3=>(ll l3 (bb (MK v10 4 0) (bb (MK v11 5 0) (bb (MK v12 6 0) (oo (Bt v4) none fun l4=>(ll l4 none fun v13 l4=>(ll l4 (oo (Om 15 0 v13) none fun l5=>(ll l5 none fun v14 l5=>(ll l5 none fun v15 l5=>(ll l5 none fun v16 l5=>(ll l5 (bb (MK v14 1 0) (bb (MK v15 2 0) (bb (MK v16 3 0) (oo (Bt v5) none fun l6=>(ll l6 none fun v17 l6=>(ll l6 (oo (Bi .i64 v17) none fun x1=>(oo (Bt v6) none fun l7=>(ll l7 none fun v18 l7=>(ll l7 none fun v19 l7=>(ll l7 (oo (Bi .i64 v18) none fun x2=>(oo (Bj 2 v19) none fun s0=>(oo (Bt v7) none fun l9=>(ll l9 none fun v20 l9=>(ll l9 (oo (Bf v20) none fun b0=>(some (.tuple ⟨[(.tuple ⟨[]⟩),(.agg ⟨[.int .i64 x1]⟩),(.agg ⟨[.int .i64 x2,(Sl.v 2 s0)]⟩),(.agg ⟨[(.bool b0)]⟩)]⟩))) fun _ _=>none))))) fun _ _=>none))))) fun _ _=>none))) none) none) none) fun _ _=>none))))) fun _ _=>none))) none) none) none) fun _ _=>none))))) fun _ _=>none)))) fun _ _=>none))) none) fun _ _=>none))))))))))
def Iy (pu:Af) (n:Nat) (args:LV):OV:=
 (ll args none fun a0 args=>(ll args none fun a1 args=>(ll args none fun o0 args=>(ll args none fun o1 args=>(ll args none fun o2 args=>(ll args (oo (Bi .i64 a0) none fun x0=>(oo (Om 12 0 a1) none fun l0=>(ll l0 none fun v0 l0=>(ll l0 none fun v1 l0=>(ll l0 none fun v2 l0=>(ll l0 (bb (MK v0 1 0) (bb (MK v1 2 0) (bb (MK v2 3 0) (oo (Bt o0) none fun l1=>(ll l1 none fun v3 l1=>(ll l1 (oo (Bi .i64 v3) none fun x1=>(oo (Bt o1) none fun l2=>(ll l2 none fun v4 l2=>(ll l2 none fun v5 l2=>(ll l2 (oo (Bi .i64 v4) none fun x2=>(oo (Bj 2 v5) none fun s0=>(oo (Bt o2) none fun l3=>(ll l3 none fun v6 l3=>(ll l3 (oo (Bf v6) none fun b0=>(Gm pu n x0 x1 x2 s0 b0)) fun _ _=>none))))) fun _ _=>none))))) fun _ _=>none))) none) none) none) fun _ _=>none)))))) fun _ _=>none))))))
theorem UT (pu:Af) (n:Nat) (z36 z37 z38:Int) (s39:Sl) (b40:Bool) {v:Value} (hm:Gm pu n z36 z37 z38 s39 b40=some v):BN tt (Bb tabs Eo pu (inl pu)) 4 O0 (fr 8 [(0,zI z36),(1,(.func (.func 12) ⟨[]⟩ ⟨[pt 1 0,(pt 2 0),(pt 3 0)]⟩))]) (hT 4 [(oC [zI z37]),(oC [zI z38,(Sl.v 2 s39)]),(oC [zB b40])]) (FJ tt 1 3 [] v):=by
 unfold Gm at hm
 refine .then (.rK (.ghs (fr 8 [(2,(pt 4 0)),(3,(pt 5 0))]) (hT 6 [(oC [zI z37]),(oC [zI z38,(Sl.v 2 s39)]),(oC [zB b40]),(oC [zI z36]),(oC [(.func (.func 12) ⟨[]⟩ ⟨[pt 1 0,(pt 2 0),(pt 3 0)]⟩)])]) (.k0 [false,false,false,false] [.tmp 2 false,.tmp 3 true] [2,3]) ?_))
 refine .then (.rK (.ghs (fr 8 [(2,(pt 4 0)),(3,(pt 5 0)),(4,(pt 6 0))]) (hT 7 [(oC [zI z37]),(oC [zI z38,(Sl.v 2 s39)]),(oC [zB b40]),(oC [zI z36]),(oC [(.func (.func 12) ⟨[]⟩ ⟨[pt 1 0,(pt 2 0),(pt 3 0)]⟩)]),(oC [.nilFunc])]) (.k0 [false,false,false,false] [.tmp 2 false,.tmp 3 true,.tmp 4 false] [2,3,4]) ?_))
 refine .then (.rK (.ghs (fr 8 [(4,(pt 4 0))]) (hT 7 [(oC [zI z37]),(oC [zI z38,(Sl.v 2 s39)]),(oC [zB b40]),(oC [(.func (.func 15) ⟨[]⟩ ⟨[(pt 5 0),(pt 6 0),(pt 4 0)]⟩)]),(oC [zI z36]),(oC [(.func (.func 12) ⟨[]⟩ ⟨[pt 1 0,(pt 2 0),(pt 3 0)]⟩)])]) (.k0 [false,false,false,false] [.tmp 4 true,.ccap 4 0 0 false,.ccap 4 0 1 true] [4]) ?_))
 replace hm:=Ab hm;obtain⟨v0,h0,hm⟩:=hm
 replace hm:=Ch hm;obtain⟨l0,rfl,hm⟩:=hm
 replace hm:=Ad hm;obtain⟨v1,l855_0,rfl,hm⟩:=hm
 replace hm:=Ad hm;obtain⟨v2,l855_1,rfl,hm⟩:=hm
 replace hm:=Ad hm;obtain⟨v3,l855_2,rfl,hm⟩:=hm
 replace hm:=Ad hm;obtain⟨v4,l855_3,rfl,hm⟩:=hm
 replace hm:=Ad hm;obtain⟨v5,l855_4,rfl,hm⟩:=hm
 replace hm:=Ad hm;obtain⟨v6,l855_5,rfl,hm⟩:=hm
 replace hm:=Ad hm;obtain⟨v7,l855_6,rfl,hm⟩:=hm
 replace hm:=AC hm;obtain⟨rfl,hm⟩:=hm
 replace hm:=Ae hm;obtain⟨h1,hm⟩:=hm
 obtain rfl:=Oo h1
 replace hm:=BG hm;obtain⟨l1,rfl,hm⟩:=hm
 replace hm:=Ad hm;obtain⟨v8,l865_0,rfl,hm⟩:=hm
 replace hm:=AC hm;obtain⟨rfl,hm⟩:=hm
 replace hm:=Ai hm;obtain⟨x0,rfl,hm⟩:=hm
 replace hm:=BG hm;obtain⟨l2,rfl,hm⟩:=hm
 replace hm:=Ad hm;obtain⟨v9,l870_0,rfl,hm⟩:=hm
 replace hm:=AC hm;obtain⟨rfl,hm⟩:=hm
 replace hm:=Ab hm;obtain⟨l3,h2,hm⟩:=hm
 obtain rfl:=Hu h2
 replace hm:=Ad hm;obtain⟨v10,l873_0,rfl,hm⟩:=hm
 replace hm:=Ad hm;obtain⟨v11,l873_1,rfl,hm⟩:=hm
 replace hm:=Ad hm;obtain⟨v12,l873_2,rfl,hm⟩:=hm
 replace hm:=AC hm;obtain⟨rfl,hm⟩:=hm
 replace hm:=Ae hm;obtain⟨h3,hm⟩:=hm
 obtain rfl:=KR h3
 replace hm:=Ae hm;obtain⟨h4,hm⟩:=hm
 obtain rfl:=KR h4
 replace hm:=Ae hm;obtain⟨h5,hm⟩:=hm
 obtain rfl:=KR h5
 replace hm:=BG hm;obtain⟨l4,rfl,hm⟩:=hm
 replace hm:=Ad hm;obtain⟨v13,l881_0,rfl,hm⟩:=hm
 replace hm:=AC hm;obtain⟨rfl,hm⟩:=hm
 replace hm:=Ab hm;obtain⟨l5,h6,hm⟩:=hm
 obtain rfl:=Hu h6
 replace hm:=Ad hm;obtain⟨v14,l884_0,rfl,hm⟩:=hm
 replace hm:=Ad hm;obtain⟨v15,l884_1,rfl,hm⟩:=hm
 replace hm:=Ad hm;obtain⟨v16,l884_2,rfl,hm⟩:=hm
 replace hm:=AC hm;obtain⟨rfl,hm⟩:=hm
 replace hm:=Ae hm;obtain⟨h7,hm⟩:=hm
 obtain rfl:=KR h7
 replace hm:=Ae hm;obtain⟨h8,hm⟩:=hm
 obtain rfl:=KR h8
 replace hm:=Ae hm;obtain⟨h9,hm⟩:=hm
 obtain rfl:=KR h9
 replace hm:=BG hm;obtain⟨l6,rfl,hm⟩:=hm
 replace hm:=Ad hm;obtain⟨v17,l892_0,rfl,hm⟩:=hm
 replace hm:=AC hm;obtain⟨rfl,hm⟩:=hm
 replace hm:=Ai hm;obtain⟨x1,rfl,hm⟩:=hm
 replace hm:=BG hm;obtain⟨l7,rfl,hm⟩:=hm
 replace hm:=Ad hm;obtain⟨v18,l897_0,rfl,hm⟩:=hm
 replace hm:=Ad hm;obtain⟨v19,l897_1,rfl,hm⟩:=hm
 replace hm:=AC hm;obtain⟨rfl,hm⟩:=hm
 replace hm:=Ai hm;obtain⟨x2,rfl,hm⟩:=hm
 replace hm:=Al hm;obtain⟨s0,rfl,hm⟩:=hm
 replace hm:=BG hm;obtain⟨l9,rfl,hm⟩:=hm
 replace hm:=Ad hm;obtain⟨v20,l905_0,rfl,hm⟩:=hm
 replace hm:=AC hm;obtain⟨rfl,hm⟩:=hm
 replace hm:=Be hm;obtain⟨b0,rfl,hm⟩:=hm
 refine .reg (eC 1 (EK tabs [[some 1],[none],[none],[none]] 4 [.tmp 1 false,.tmp 2 true,.tmp 3 true,.ccap 2 0 0 false,.ccap 2 0 1 false,.ccap 2 0 2 false] [false,true,true,false,false,false] (pu 10150) [(.slice none 0 0),(pt 5 0),(pt 6 0),(pt 4 0)] (hT 7 [(oC [zI z37]),(oC [zI z38,(Sl.v 2 s39)]),(oC [zB b40]),(oC [(.func (.func 15) ⟨[]⟩ ⟨[(pt 5 0),(pt 6 0),(pt 4 0)]⟩)]),(oC [zI z36]),(oC [(.func (.func 12) ⟨[]⟩ ⟨[pt 1 0,(pt 2 0),(pt 3 0)]⟩)])])) (EL (as:=[(Sl.v 1 (Sl.mk 0 2 [])),(pt 5 0),(pt 6 0),(pt 4 0)]) (H1:=(hT 7 [(oC [zI z37]),(oC [zI z38,(Sl.v 2 s39)]),(oC [zB b40]),(oC [(.func (.func 15) ⟨[]⟩ ⟨[(pt 5 0),(pt 6 0),(pt 4 0)]⟩)]),(oC [zI z36]),(oC [(.func (.func 12) ⟨[]⟩ ⟨[pt 1 0,(pt 2 0),(pt 3 0)]⟩)])])) (BS (Dm (KQ (Ju (z:=1) (H:=(hT 7 [(oC [zI z37]),(oC [zI z38,(Sl.v 2 s39)]),(oC [zB b40]),(oC [(.func (.func 15) ⟨[]⟩ ⟨[(pt 5 0),(pt 6 0),(pt 4 0)]⟩)]),(oC [zI z36]),(oC [(.func (.func 12) ⟨[]⟩ ⟨[pt 1 0,(pt 2 0),(pt 3 0)]⟩)])]))))) (BS (Dm Dk) (BS (Dm Dk) (BS (Dm Dk) Gj)))) (EI (H2:=(hT 7 [(oC [zI x1]),(oC [zI x2,(Sl.v 2 s0)]),(oC [zB b0]),(oC [(.func (.func 15) ⟨[]⟩ ⟨[(pt 5 0),(pt 6 0),(pt 4 0)]⟩)]),(oC [zI x0]),(oC [(.func (.func 12) ⟨[]⟩ ⟨[pt 1 0,(pt 2 0),(pt 3 0)]⟩)])])) (v:=(.tuple ⟨[]⟩)) (v':=(.tuple ⟨[]⟩)) [some 0,some 5,some 6,some 4,some 1,some 2,some 3] [(false,some 5),(true,some 6),(true,some 4),(false,some 1),(false,some 2),(false,some 3)] [(oC [zI z36]),(oC [(.func (.func 12) ⟨[]⟩ ⟨[(pt 4 0),(pt 5 0),(pt 6 0)]⟩)]),(oC [(.func (.func 15) ⟨[]⟩ ⟨[pt 1 0,(pt 2 0),(pt 3 0)]⟩)]),(oC [zI z37]),(oC [zI z38,(Sl.v 2 s39)]),(oC [zB b40])] [(Sl.v 1 (Sl.mk 0 2 [])),pt 1 0,(pt 2 0),(pt 3 0)] [(.agg ⟨[zI x0]⟩),(.agg ⟨[(.func (.func 12) ⟨[]⟩ ⟨[(pt 4 0),(pt 5 0),(pt 6 0)]⟩)]⟩),(.agg ⟨[(.func (.func 15) ⟨[]⟩ ⟨[pt 1 0,(pt 2 0),(pt 3 0)]⟩)]⟩),(.agg ⟨[zI x1]⟩),(.agg ⟨[zI x2,(Sl.v 2 s0)]⟩),(.agg ⟨[zB b0]⟩)] [(oC [zI x0]),(oC [(.func (.func 12) ⟨[]⟩ ⟨[(pt 4 0),(pt 5 0),(pt 6 0)]⟩)]),(oC [(.func (.func 15) ⟨[]⟩ ⟨[pt 1 0,(pt 2 0),(pt 3 0)]⟩)]),(oC [zI x1]),(oC [zI x2,(Sl.v 2 s0)]),(oC [zB b0])] [some 0,some 4,some 5,some 6,some 3,some 1,some 2] [(false,(oC [zI x0])),(true,(oC [(.func (.func 12) ⟨[]⟩ ⟨[(pt 4 0),(pt 5 0),(pt 6 0)]⟩)])),(true,(oC [(.func (.func 15) ⟨[]⟩ ⟨[pt 1 0,(pt 2 0),(pt 3 0)]⟩)])),(false,(oC [zI x1])),(false,(oC [zI x2,(Sl.v 2 s0)])),(false,(oC [zB b0]))] [(oC [zI x0]),(oC [(.func (.func 12) ⟨[]⟩ ⟨[pt 1 0,(pt 2 0),(pt 3 0)]⟩)]),(oC [(.func (.func 15) ⟨[]⟩ ⟨[(pt 5 0),(pt 6 0),(pt 4 0)]⟩)]),(oC [zI x1]),(oC [zI x2,(Sl.v 2 s0)]),(oC [zB b0])] (by kernel_rfl) (En (by kernel_rfl) (En (by kernel_rfl) (En (by kernel_rfl) (En (by kernel_rfl) (En (by kernel_rfl) (En (by kernel_rfl) BX)))))) (Eq.trans (by kernel_rfl) h0) (En rfl (En rfl (En rfl (En rfl (En rfl (En rfl BX)))))) (En (by kernel_rfl) (En (by kernel_rfl) (En (by kernel_rfl) (En (by kernel_rfl) (En (by kernel_rfl) (En (by kernel_rfl) BX)))))))) (eE)) ?_
 refine .ghs (fr 8 []) (hT 4 [(oC [zI x1]),(oC [zI x2,(Sl.v 2 s0)]),(oC [zB b0])]) (.k0 [false,false,false,false] [] []) ?_
 exact TU (.tuple ⟨[]⟩) [(oC [zI x1]),(oC [zI x2,(Sl.v 2 s0)]),(oC [zB b0])] (by kernel_rfl) hm (Nat.le_of_ble_eq_true rfl) (Fa (VT _) (Fa (VT _) (Fa (VT _) EJ)))
theorem UU {call:A8} (pu:Af) (n:Nat) (hcall:call=Bb tabs Eo pu (inl pu)) {args:LV} {os:List AJ} {z:Value} (ha:args.length=2) (hk:os.length=3) (hpl:∀ o∈os,plainO o) (hm:Iy pu n (args++os.map Ef)=some z):args.length≤8∧BN tt call (tabs.length+3) O0 (Fr.made 8 args) (BK tabs os) (FJ tt tabs.length 3 [] z):=by
 subst hcall
 have hq:=BC ha;clear ha;obtain⟨a0,args,rfl,ha⟩:=hq
 have hq:=BC ha;clear ha;obtain⟨a1,args,rfl,ha⟩:=hq
 obtain rfl:=len_nil ha
 have hq:=BC hk;clear hk;obtain⟨b0,os,rfl,hk⟩:=hq
 have hp0:plainO b0:=hpl b0 (by simp)
 have hq:=BC hk;clear hk;obtain⟨b1,os,rfl,hk⟩:=hq
 have hp1:plainO b1:=hpl b1 (by simp)
 have hq:=BC hk;clear hk;obtain⟨b2,os,rfl,hk⟩:=hq
 have hp2:plainO b2:=hpl b2 (by simp)
 obtain rfl:=len_nil hk
 replace hm:Iy pu n [a0,a1,Ef b0,Ef b1,Ef b2]=some z:=hm
 unfold Iy at hm
 replace hm:(oo (Bi .i64 a0) none fun x0=>(oo (Om 12 0 a1) none fun l0=>(ll l0 none fun v0 l0=>(ll l0 none fun v1 l0=>(ll l0 none fun v2 l0=>(ll l0 (bb (MK v0 1 0) (bb (MK v1 2 0) (bb (MK v2 3 0) (oo (Bt (Ef b0)) none fun l1=>(ll l1 none fun v3 l1=>(ll l1 (oo (Bi .i64 v3) none fun x1=>(oo (Bt (Ef b1)) none fun l2=>(ll l2 none fun v4 l2=>(ll l2 none fun v5 l2=>(ll l2 (oo (Bi .i64 v4) none fun x2=>(oo (Bj 2 v5) none fun s0=>(oo (Bt (Ef b2)) none fun l3=>(ll l3 none fun v6 l3=>(ll l3 (oo (Bf v6) none fun b3=>(Gm pu n x0 x1 x2 s0 b3)) fun _ _=>none))))) fun _ _=>none))))) fun _ _=>none))) none) none) none) fun _ _=>none))))))=some z:=hm
 replace hm:=Ai hm;obtain⟨x0,rfl,hm⟩:=hm
 replace hm:=Ab hm;obtain⟨l0,h0,hm⟩:=hm
 obtain rfl:=Hu h0
 replace hm:=Ad hm;obtain⟨v0,l916_0,rfl,hm⟩:=hm
 replace hm:=Ad hm;obtain⟨v1,l916_1,rfl,hm⟩:=hm
 replace hm:=Ad hm;obtain⟨v2,l916_2,rfl,hm⟩:=hm
 replace hm:=AC hm;obtain⟨rfl,hm⟩:=hm
 replace hm:=Ae hm;obtain⟨h1,hm⟩:=hm
 obtain rfl:=KR h1
 replace hm:=Ae hm;obtain⟨h2,hm⟩:=hm
 obtain rfl:=KR h2
 replace hm:=Ae hm;obtain⟨h3,hm⟩:=hm
 obtain rfl:=KR h3
 replace hm:=Ab hm;obtain⟨l1,h4,hm⟩:=hm
 obtain rfl:=I7 hp0 h4
 replace hm:=Ad hm;obtain⟨v3,l924_0,rfl,hm⟩:=hm
 replace hm:=AC hm;obtain⟨rfl,hm⟩:=hm
 replace hm:=Ai hm;obtain⟨x1,rfl,hm⟩:=hm
 replace hm:=Ab hm;obtain⟨l2,h5,hm⟩:=hm
 obtain rfl:=I7 hp1 h5
 replace hm:=Ad hm;obtain⟨v4,l929_0,rfl,hm⟩:=hm
 replace hm:=Ad hm;obtain⟨v5,l929_1,rfl,hm⟩:=hm
 replace hm:=AC hm;obtain⟨rfl,hm⟩:=hm
 replace hm:=Ai hm;obtain⟨x2,rfl,hm⟩:=hm
 replace hm:=Al hm;obtain⟨s0,rfl,hm⟩:=hm
 replace hm:=Ab hm;obtain⟨l3,h6,hm⟩:=hm
 obtain rfl:=I7 hp2 h6
 replace hm:=Ad hm;obtain⟨v6,l937_0,rfl,hm⟩:=hm
 replace hm:=AC hm;obtain⟨rfl,hm⟩:=hm
 replace hm:=Be hm;obtain⟨b3,rfl,hm⟩:=hm
 refine⟨by simp,?_⟩
 exact .same (F':=(fr 8 [(0,zI x0),(1,(.func (.func 12) ⟨[]⟩ ⟨[pt 1 0,(pt 2 0),(pt 3 0)]⟩))])) (H':=(hT 4 [(oC [zI x1]),(oC [zI x2,(Sl.v 2 s0)]),(oC [zB b3])])) (by kernel_rfl) (by kernel_rfl) (UT pu n x0 x1 x2 s0 b3 hm)
def Dr (pu:Af) (n:Nat) (ih0:Sl→Int→Int→Int→Int→Sl→Bool→OV) (s0:Sl) (z0 z1 z2 z3:Int) (s1:Sl) (b0:Bool):OV:=
 (ih0 s0 (Aj .i64 (Int.add z0 (1:Int))) z1 z2 z3 s1 b0)
def Dy (pu:Af) (n:Nat) (ih0:Sl→Int→Int→Int→Int→Sl→Bool→OV) (s0:Sl) (z0 z1 z2 z3:Int) (s1:Sl) (b0:Bool):OV:=
 (bb (AY z0 z1) (oo (pu 16 [Sl.v 1 s0,.int .i64 z0]) none fun v0=>(oo (Bf v0) none fun b1=>(bb (nt b1) (oo (pu 17 [Sl.v 1 s0]) none fun v1=>(oo (Bj 1 v1) none fun s2=>(bb (an (Dp (Nat.beq (Sl.fl s2) 1) (Nat.beq (Sl.fl s2) 2)) (EQ ((Sl.n s2)+1) 8)) (bb (an (Nat.ble (0+((Sl.n s2)+1)*1) (len (Br (Sl.cs s2) ([.int .i64 z0]:LV)))) (Au Ah (Aq (((Sl.n s2)+1)*1) (Am 0 (Br (Sl.cs s2) ([.int .i64 z0]:LV)))))) (oo (pu 10150 [(Sl.v 1 (Sl.mk ((Sl.n s2)+1) 0 (Aq (((Sl.n s2)+1)*1) (Am 0 (Br (Sl.cs s2) ([.int .i64 z0]:LV)))))),(.pointer (some ⟨1,0,none⟩)),(.pointer (some ⟨2,0,none⟩)),(.pointer (some ⟨3,0,none⟩)),(.agg ⟨[.int .i64 z1]⟩),(.agg ⟨[(.func (.func 12) ⟨[]⟩ ⟨[(.pointer (some ⟨4,0,none⟩)),(.pointer (some ⟨5,0,none⟩)),(.pointer (some ⟨6,0,none⟩))]⟩)]⟩),(.agg ⟨[(.func (.func 15) ⟨[]⟩ ⟨[(.pointer (some ⟨1,0,none⟩)),(.pointer (some ⟨2,0,none⟩)),(.pointer (some ⟨3,0,none⟩))]⟩)]⟩),(.agg ⟨[.int .i64 z2]⟩),(.agg ⟨[.int .i64 z3,(Sl.v 2 s1)]⟩),(.agg ⟨[(.bool b0)]⟩)]) none fun v2=>(oo (CQ v2) none fun l0=>(ll l0 none fun v3 l0=>(ll l0 none fun v4 l0=>(ll l0 none fun v5 l0=>(ll l0 none fun v6 l0=>(ll l0 none fun v7 l0=>(ll l0 none fun v8 l0=>(ll l0 none fun v9 l0=>(ll l0 (bb (MC v3) (oo (Bt v4) none fun l1=>(ll l1 none fun v10 l1=>(ll l1 (oo (Bi .i64 v10) none fun x0=>(oo (Bt v5) none fun l2=>(ll l2 none fun v11 l2=>(ll l2 (oo (Om 12 0 v11) none fun l3=>(ll l3 none fun v12 l3=>(ll l3 none fun v13 l3=>(ll l3 none fun v14 l3=>(ll l3 (bb (MK v12 4 0) (bb (MK v13 5 0) (bb (MK v14 6 0) (oo (Bt v6) none fun l4=>(ll l4 none fun v15 l4=>(ll l4 (oo (Om 15 0 v15) none fun l5=>(ll l5 none fun v16 l5=>(ll l5 none fun v17 l5=>(ll l5 none fun v18 l5=>(ll l5 (bb (MK v16 1 0) (bb (MK v17 2 0) (bb (MK v18 3 0) (oo (Bt v7) none fun l6=>(ll l6 none fun v19 l6=>(ll l6 (oo (Bi .i64 v19) none fun x1=>(oo (Bt v8) none fun l7=>(ll l7 none fun v20 l7=>(ll l7 none fun v21 l7=>(ll l7 (oo (Bi .i64 v20) none fun x2=>(oo (Bj 2 v21) none fun s3=>(oo (Bt v9) none fun l9=>(ll l9 none fun v22 l9=>(ll l9 (oo (Bf v22) none fun b2=>(Dr pu n ih0 s0 z0 x0 x1 x2 s3 b2)) fun _ _=>none))))) fun _ _=>none))))) fun _ _=>none))) none) none) none) fun _ _=>none))))) fun _ _=>none))) none) none) none) fun _ _=>none))))) fun _ _=>none)))) fun _ _=>none))) none) fun _ _=>none)))))))))) none) none))) (Dr pu n ih0 s0 z0 z1 z2 z3 s1 b0)))) (some (.tuple ⟨[(.tuple ⟨[]⟩),(.agg ⟨[.int .i64 z1]⟩),(.agg ⟨[(.func (.func 12) ⟨[]⟩ ⟨[(.pointer (some ⟨4,0,none⟩)),(.pointer (some ⟨5,0,none⟩)),(.pointer (some ⟨6,0,none⟩))]⟩)]⟩),(.agg ⟨[(.func (.func 15) ⟨[]⟩ ⟨[(.pointer (some ⟨1,0,none⟩)),(.pointer (some ⟨2,0,none⟩)),(.pointer (some ⟨3,0,none⟩))]⟩)]⟩),(.agg ⟨[.int .i64 z2]⟩),(.agg ⟨[.int .i64 z3,(Sl.v 2 s1)]⟩),(.agg ⟨[(.bool b0)]⟩)]⟩)))
def Cs (pu:Af) (n w:Nat):Sl→Int→Int→Int→Int→Sl→Bool→OV:=
 Nat.rec (motive:=fun _=>Sl→Int→Int→Int→Int→Sl→Bool→OV) (fun _ _ _ _ _ _ _=>none) (fun _ ih0=>Dy pu n ih0) w
def FD (pu:Af) (n:Nat) (s41:Sl) (z42 z43 z44:Int) (s45:Sl) (b46:Bool):OV:=
 (bb (Bd (Int.ofNat (Sl.n s41)) z42) (oo (pu 10120 [Sl.v 1 s41,(.pointer (some ⟨1,0,none⟩)),(.pointer (some ⟨2,0,none⟩)),(.pointer (some ⟨3,0,none⟩)),(.agg ⟨[.int .i64 z43]⟩),(.agg ⟨[.int .i64 z44,(Sl.v 2 s45)]⟩),(.agg ⟨[(.bool b46)]⟩)]) none fun v0=>(oo (CQ v0) none fun l0=>(ll l0 none fun v1 l0=>(ll l0 none fun v2 l0=>(ll l0 none fun v3 l0=>(ll l0 none fun v4 l0=>(ll l0 (bb (MC v1) (oo (Bt v2) none fun l1=>(ll l1 none fun v5 l1=>(ll l1 (oo (Bi .i64 v5) none fun x0=>(oo (Bt v3) none fun l2=>(ll l2 none fun v6 l2=>(ll l2 none fun v7 l2=>(ll l2 (oo (Bi .i64 v6) none fun x1=>(oo (Bj 2 v7) none fun s0=>(oo (Bt v4) none fun l3=>(ll l3 none fun v8 l3=>(ll l3 (oo (Bf v8) none fun b0=>(some (.tuple ⟨[(.tuple ⟨[]⟩),(.agg ⟨[.int .i64 z42]⟩),(.agg ⟨[(.func (.func 12) ⟨[]⟩ ⟨[(.pointer (some ⟨4,0,none⟩)),(.pointer (some ⟨5,0,none⟩)),(.pointer (some ⟨6,0,none⟩))]⟩)]⟩),(.agg ⟨[(.func (.func 15) ⟨[]⟩ ⟨[(.pointer (some ⟨1,0,none⟩)),(.pointer (some ⟨2,0,none⟩)),(.pointer (some ⟨3,0,none⟩))]⟩)]⟩),(.agg ⟨[.int .i64 x0]⟩),(.agg ⟨[.int .i64 x1,(Sl.v 2 s0)]⟩),(.agg ⟨[(.bool b0)]⟩)]⟩))) fun _ _=>none))))) fun _ _=>none))))) fun _ _=>none))) none) fun _ _=>none))))))) (Cs pu n n s41 (0:Int) z42 z43 z44 s45 b46))
def Iz (pu:Af) (n:Nat) (args:LV):OV:=
 (ll args none fun a0 args=>(ll args none fun a1 args=>(ll args none fun a2 args=>(ll args none fun a3 args=>(ll args none fun o0 args=>(ll args none fun o1 args=>(ll args none fun o2 args=>(ll args none fun o3 args=>(ll args none fun o4 args=>(ll args none fun o5 args=>(ll args (oo (Bj 1 a0) none fun s0=>(bb (MK a1 1 0) (bb (MK a2 2 0) (bb (MK a3 3 0) (oo (Bt o0) none fun l0=>(ll l0 none fun v0 l0=>(ll l0 (oo (Bi .i64 v0) none fun x0=>(oo (Bt o1) none fun l1=>(ll l1 none fun v1 l1=>(ll l1 (oo (Om 12 0 v1) none fun l2=>(ll l2 none fun v2 l2=>(ll l2 none fun v3 l2=>(ll l2 none fun v4 l2=>(ll l2 (bb (MK v2 4 0) (bb (MK v3 5 0) (bb (MK v4 6 0) (oo (Bt o2) none fun l3=>(ll l3 none fun v5 l3=>(ll l3 (oo (Om 15 0 v5) none fun l4=>(ll l4 none fun v6 l4=>(ll l4 none fun v7 l4=>(ll l4 none fun v8 l4=>(ll l4 (bb (MK v6 1 0) (bb (MK v7 2 0) (bb (MK v8 3 0) (oo (Bt o3) none fun l5=>(ll l5 none fun v9 l5=>(ll l5 (oo (Bi .i64 v9) none fun x1=>(oo (Bt o4) none fun l6=>(ll l6 none fun v10 l6=>(ll l6 none fun v11 l6=>(ll l6 (oo (Bi .i64 v10) none fun x2=>(oo (Bj 2 v11) none fun s1=>(oo (Bt o5) none fun l7=>(ll l7 none fun v12 l7=>(ll l7 (oo (Bf v12) none fun b0=>(FD pu n s0 x0 x1 x2 s1 b0)) fun _ _=>none))))) fun _ _=>none))))) fun _ _=>none))) none) none) none) fun _ _=>none))))) fun _ _=>none))) none) none) none) fun _ _=>none))))) fun _ _=>none)))) fun _ _=>none))) none) none) none)) fun _ _=>none)))))))))))
theorem UV (pu:Af) (n:Nat) (s41:Sl) (z42 z43 z44:Int) (s45:Sl) (b46:Bool) {v:Value} (hm:FD pu n s41 z42 z43 z44 s45 b46=some v):BN tt (Bb tabs Eo pu (inl pu)) 7 Hw (fr 29 [(0,Sl.v 1 s41),(1,pt 1 0),(2,(pt 2 0)),(3,(pt 3 0))]) (hT 7 [(oC [zI z42]),(oC [(.func (.func 12) ⟨[]⟩ ⟨[(pt 4 0),(pt 5 0),(pt 6 0)]⟩)]),(oC [(.func (.func 15) ⟨[]⟩ ⟨[pt 1 0,(pt 2 0),(pt 3 0)]⟩)]),(oC [zI z43]),(oC [zI z44,(Sl.v 2 s45)]),(oC [zB b46])]) (FJ tt 1 6 [] v):=by
 unfold FD at hm
 refine .then (.then (.rK (.ghs (fr 29 [(0,Sl.v 1 s41),(1,pt 1 0),(2,(pt 2 0)),(3,(pt 3 0)),(9,(zB (Bd (Int.ofNat (Sl.n s41)) z42)))]) (hT 7 [(oC [zI z42]),(oC [(.func (.func 12) ⟨[]⟩ ⟨[(pt 4 0),(pt 5 0),(pt 6 0)]⟩)]),(oC [(.func (.func 15) ⟨[]⟩ ⟨[pt 1 0,(pt 2 0),(pt 3 0)]⟩)]),(oC [zI z43]),(oC [zI z44,(Sl.v 2 s45)]),(oC [zB b46])]) (.k0 [false,false,true,true,false,false,false] [] [0,1,2,3,9]) ?_)))
 replace hm:=Ag hm;rcases hm with⟨h47,hm⟩ | ⟨h47,hm⟩
 ·refine C8 (Bd (Int.ofNat (Sl.n s41)) z42) h47 ?_
  refine .then ?_
  replace hm:=Ab hm;obtain⟨v0,h0,hm⟩:=hm
  replace hm:=Ch hm;obtain⟨l0,rfl,hm⟩:=hm
  replace hm:=Ad hm;obtain⟨v1,l249_0,rfl,hm⟩:=hm
  replace hm:=Ad hm;obtain⟨v2,l249_1,rfl,hm⟩:=hm
  replace hm:=Ad hm;obtain⟨v3,l249_2,rfl,hm⟩:=hm
  replace hm:=Ad hm;obtain⟨v4,l249_3,rfl,hm⟩:=hm
  replace hm:=AC hm;obtain⟨rfl,hm⟩:=hm
  replace hm:=Ae hm;obtain⟨h1,hm⟩:=hm
  obtain rfl:=Oo h1
  replace hm:=BG hm;obtain⟨l1,rfl,hm⟩:=hm
  replace hm:=Ad hm;obtain⟨v5,l256_0,rfl,hm⟩:=hm
  replace hm:=AC hm;obtain⟨rfl,hm⟩:=hm
  replace hm:=Ai hm;obtain⟨x0,rfl,hm⟩:=hm
  replace hm:=BG hm;obtain⟨l2,rfl,hm⟩:=hm
  replace hm:=Ad hm;obtain⟨v6,l261_0,rfl,hm⟩:=hm
  replace hm:=Ad hm;obtain⟨v7,l261_1,rfl,hm⟩:=hm
  replace hm:=AC hm;obtain⟨rfl,hm⟩:=hm
  replace hm:=Ai hm;obtain⟨x1,rfl,hm⟩:=hm
  replace hm:=Al hm;obtain⟨s0,rfl,hm⟩:=hm
  replace hm:=BG hm;obtain⟨l3,rfl,hm⟩:=hm
  replace hm:=Ad hm;obtain⟨v8,l269_0,rfl,hm⟩:=hm
  replace hm:=AC hm;obtain⟨rfl,hm⟩:=hm
  replace hm:=Be hm;obtain⟨b0,rfl,hm⟩:=hm
  refine .reg (eC 2 (EK tabs [[some 1],[none],[none],[none]] 4 [.tmp 1 false,.tmp 2 false,.tmp 3 false] [false,false,false] (pu 10120) [Sl.v 1 s41,(pt 4 0),(pt 5 0),(pt 6 0)] (hT 7 [(oC [zI z42]),(oC [(.func (.func 12) ⟨[]⟩ ⟨[(pt 4 0),(pt 5 0),(pt 6 0)]⟩)]),(oC [(.func (.func 15) ⟨[]⟩ ⟨[pt 1 0,(pt 2 0),(pt 3 0)]⟩)]),(oC [zI z43]),(oC [zI z44,(Sl.v 2 s45)]),(oC [zB b46])])) (EL (as:=[Sl.v 1 s41,(pt 4 0),(pt 5 0),(pt 6 0)]) (H1:=(hT 7 [(oC [zI z42]),(oC [(.func (.func 12) ⟨[]⟩ ⟨[(pt 4 0),(pt 5 0),(pt 6 0)]⟩)]),(oC [(.func (.func 15) ⟨[]⟩ ⟨[pt 1 0,(pt 2 0),(pt 3 0)]⟩)]),(oC [zI z43]),(oC [zI z44,(Sl.v 2 s45)]),(oC [zB b46])])) (BS (Dm (KQ (CV (z:=1) (v:=(Sl.v 1 s41)) (H:=(hT 7 [(oC [zI z42]),(oC [(.func (.func 12) ⟨[]⟩ ⟨[(pt 4 0),(pt 5 0),(pt 6 0)]⟩)]),(oC [(.func (.func 15) ⟨[]⟩ ⟨[pt 1 0,(pt 2 0),(pt 3 0)]⟩)]),(oC [zI z43]),(oC [zI z44,(Sl.v 2 s45)]),(oC [zB b46])])) (by kernel_rfl) (by kernel_rfl) (by kernel_rfl)))) (BS (Dm Dk) (BS (Dm Dk) (BS (Dm Dk) Gj)))) (EI (H2:=(hT 7 [(oC [zI z42]),(oC [(.func (.func 12) ⟨[]⟩ ⟨[(pt 4 0),(pt 5 0),(pt 6 0)]⟩)]),(oC [(.func (.func 15) ⟨[]⟩ ⟨[pt 1 0,(pt 2 0),(pt 3 0)]⟩)]),(oC [zI x0]),(oC [zI x1,(Sl.v 2 s0)]),(oC [zB b0])])) (v:=(.tuple ⟨[]⟩)) (v':=(.tuple ⟨[]⟩)) [some 0,some 4,some 5,some 6] [(false,some 4),(false,some 5),(false,some 6)] [(oC [zI z43]),(oC [zI z44,(Sl.v 2 s45)]),(oC [zB b46])] [Sl.v 1 s41,pt 1 0,(pt 2 0),(pt 3 0)] [(.agg ⟨[zI x0]⟩),(.agg ⟨[zI x1,(Sl.v 2 s0)]⟩),(.agg ⟨[zB b0]⟩)] [(oC [zI x0]),(oC [zI x1,(Sl.v 2 s0)]),(oC [zB b0])] [some 0,none,none,none,some 1,some 2,some 3] [(false,(oC [zI x0])),(false,(oC [zI x1,(Sl.v 2 s0)])),(false,(oC [zB b0]))] [(oC [zI x0]),(oC [zI x1,(Sl.v 2 s0)]),(oC [zB b0])] (by kernel_rfl) (En (by kernel_rfl) (En (by kernel_rfl) (En (by kernel_rfl) BX))) (Eq.trans (by kernel_rfl) h0) (En rfl (En rfl (En rfl BX))) (En (by kernel_rfl) (En (by kernel_rfl) (En (by kernel_rfl) BX))))) (eE)) ?_
  refine .ghs (fr 29 []) (hT 7 [(oC [zI z42]),(oC [(.func (.func 12) ⟨[]⟩ ⟨[(pt 4 0),(pt 5 0),(pt 6 0)]⟩)]),(oC [(.func (.func 15) ⟨[]⟩ ⟨[pt 1 0,(pt 2 0),(pt 3 0)]⟩)]),(oC [zI x0]),(oC [zI x1,(Sl.v 2 s0)]),(oC [zB b0])]) (.k0 [false,false,true,true,false,false,false] [] []) ?_
  refine .ghs (fr 29 []) (hT 7 [(oC [zI z42]),(oC [(.func (.func 12) ⟨[]⟩ ⟨[(pt 4 0),(pt 5 0),(pt 6 0)]⟩)]),(oC [(.func (.func 15) ⟨[]⟩ ⟨[pt 1 0,(pt 2 0),(pt 3 0)]⟩)]),(oC [zI x0]),(oC [zI x1,(Sl.v 2 s0)]),(oC [zB b0])]) (.k0 [false,false,true,true,false,false,false] [] []) ?_
  refine .ret ?_
  exact Gi (.tuple ⟨[]⟩) [(oC [zI z42]),(oC [(.func (.func 12) ⟨[]⟩ ⟨[(pt 4 0),(pt 5 0),(pt 6 0)]⟩)]),(oC [(.func (.func 15) ⟨[]⟩ ⟨[pt 1 0,(pt 2 0),(pt 3 0)]⟩)]),(oC [zI x0]),(oC [zI x1,(Sl.v 2 s0)]),(oC [zB b0])] (by kernel_rfl) hm (Nat.le_of_ble_eq_true rfl) (Fa (VT _) (Fa (VT _) (Fa (VT _) (Fa (VT _) (Fa (VT _) (Fa (VT _) EJ))))))
 ·refine Dn (Bd (Int.ofNat (Sl.n s41)) z42) h47 ?_
  refine .skip (.ghs (fr 29 [(0,Sl.v 1 s41),(1,pt 1 0),(3,(pt 3 0))]) (hT 7 [(oC [zI z42]),(oC [(.func (.func 12) ⟨[]⟩ ⟨[(pt 4 0),(pt 5 0),(pt 6 0)]⟩)]),(oC [(.func (.func 15) ⟨[]⟩ ⟨[pt 1 0,(pt 2 0),(pt 3 0)]⟩)]),(oC [zI z43]),(oC [zI z44,(Sl.v 2 s45)]),(oC [zB b46])]) (.k0 [false,false,true,true,false,false,false] [] [0,1,3]) ?_)
  refine .then (.rK (.ghs (fr 29 [(0,Sl.v 1 s41),(1,pt 1 0),(3,(pt 3 0)),(5,(zI (0:Int)))]) (hT 7 [(oC [zI z42]),(oC [(.func (.func 12) ⟨[]⟩ ⟨[(pt 4 0),(pt 5 0),(pt 6 0)]⟩)]),(oC [(.func (.func 15) ⟨[]⟩ ⟨[pt 1 0,(pt 2 0),(pt 3 0)]⟩)]),(oC [zI z43]),(oC [zI z44,(Sl.v 2 s45)]),(oC [zB b46])]) (.k0 [false,false,true,true,false,false,false] [] [0,1,3,5]) ?_))
  refine .block (.loopM (v:=v) (fun y:Sl×Int×Int×Int×Int×Sl×Bool=>((fr 29 [(0,(Sl.v 1 y.1)),(1,pt 1 0),(3,(pt 3 0)),(5,(zI y.2.1))]),(hT 7 [(oC [(zI y.2.2.1)]),(oC [(.func (.func 12) ⟨[]⟩ ⟨[(pt 4 0),(pt 5 0),(pt 6 0)]⟩)]),(oC [(.func (.func 15) ⟨[]⟩ ⟨[pt 1 0,(pt 2 0),(pt 3 0)]⟩)]),(oC [(zI y.2.2.2.1)]),(oC [(zI y.2.2.2.2.1),(Sl.v 2 y.2.2.2.2.2.1)]),(oC [(zB y.2.2.2.2.2.2)])]))) (fun w y=>Cs pu n w y.1 y.2.1 y.2.2.1 y.2.2.2.1 y.2.2.2.2.1 y.2.2.2.2.2.1 y.2.2.2.2.2.2) n ⟨(s41,(0:Int),z42,z43,z44,s45,b46),hm,(.k0 [false,false,true,true,false,false,false] [] [0,1,3,5])⟩ (fun _=>rfl) ?_)
  rintro w0 ⟨s1,z0,z1,z2,z3,s2,b1⟩ hm
  replace hm:Dy pu n (Cs pu n w0) s1 z0 z1 z2 z3 s2 b1=some v:=hm
  unfold Dy at hm
  refine .then (.then (.rK (.ghs (fr 29 [(0,Sl.v 1 s1),(1,pt 1 0),(3,(pt 3 0)),(5,zI z0),(15,(zB (AY z0 z1)))]) (hT 7 [(oC [zI z1]),(oC [(.func (.func 12) ⟨[]⟩ ⟨[(pt 4 0),(pt 5 0),(pt 6 0)]⟩)]),(oC [(.func (.func 15) ⟨[]⟩ ⟨[pt 1 0,(pt 2 0),(pt 3 0)]⟩)]),(oC [zI z2]),(oC [zI z3,(Sl.v 2 s2)]),(oC [zB b1])]) (.k0 [false,false,true,true,false,false,false] [] [0,1,3,5,15]) ?_)))
  replace hm:=Ag hm;rcases hm with⟨h2,hm⟩ | ⟨h2,hm⟩
  ·refine C8 (AY z0 z1) h2 ?_
   refine .skip (.ghs (fr 29 [(0,Sl.v 1 s1),(1,pt 1 0),(3,(pt 3 0)),(5,zI z0)]) (hT 7 [(oC [zI z1]),(oC [(.func (.func 12) ⟨[]⟩ ⟨[(pt 4 0),(pt 5 0),(pt 6 0)]⟩)]),(oC [(.func (.func 15) ⟨[]⟩ ⟨[pt 1 0,(pt 2 0),(pt 3 0)]⟩)]),(oC [zI z2]),(oC [zI z3,(Sl.v 2 s2)]),(oC [zB b1])]) (.k0 [false,false,true,true,false,false,false] [] [0,1,3,5]) ?_)
   refine .join (v:=v) (fun y:Sl×Int×Int×Int×Int×Sl×Bool=>((fr 29 [(0,(Sl.v 1 y.1)),(1,pt 1 0),(3,(pt 3 0)),(5,(zI y.2.1))]),(hT 7 [(oC [(zI y.2.2.1)]),(oC [(.func (.func 12) ⟨[]⟩ ⟨[(pt 4 0),(pt 5 0),(pt 6 0)]⟩)]),(oC [(.func (.func 15) ⟨[]⟩ ⟨[pt 1 0,(pt 2 0),(pt 3 0)]⟩)]),(oC [(zI y.2.2.2.1)]),(oC [(zI y.2.2.2.2.1),(Sl.v 2 y.2.2.2.2.2.1)]),(oC [(zB y.2.2.2.2.2.2)])]))) (fun y=>Dr pu n (Cs pu n w0) y.1 y.2.1 y.2.2.1 y.2.2.2.1 y.2.2.2.2.1 y.2.2.2.2.2.1 y.2.2.2.2.2.2) ?_ ?_
   ·rintro⟨s3,z4,z5,z6,z7,s4,b2⟩ hm
    unfold Dr at hm
    refine .rK ?_
    exact⟨(s3,(Aj .i64 (Int.add z4 (1:Int))),z5,z6,z7,s4,b2),hm,(.k0 [false,false,true,true,false,false,false] [] [0,1,3,5])⟩
   ·refine .block (.then ?_)
    replace hm:=O3 hm;obtain⟨b3,h3,hm⟩:=hm
    refine .reg (eC 2 ((oo (pu 16 [Sl.v 1 s1,zI z0]) none fun v=>some (v,(hT 7 [(oC [zI z1]),(oC [(.func (.func 12) ⟨[]⟩ ⟨[(pt 4 0),(pt 5 0),(pt 6 0)]⟩)]),(oC [(.func (.func 15) ⟨[]⟩ ⟨[pt 1 0,(pt 2 0),(pt 3 0)]⟩)]),(oC [zI z2]),(oC [zI z3,(Sl.v 2 s2)]),(oC [zB b1])])))) (AB h3) (eE)) ?_
    refine .ghs (fr 29 [(0,Sl.v 1 s1),(1,pt 1 0),(3,(pt 3 0)),(5,zI z0),(21,(zB (nt b3)))]) (hT 7 [(oC [zI z1]),(oC [(.func (.func 12) ⟨[]⟩ ⟨[(pt 4 0),(pt 5 0),(pt 6 0)]⟩)]),(oC [(.func (.func 15) ⟨[]⟩ ⟨[pt 1 0,(pt 2 0),(pt 3 0)]⟩)]),(oC [zI z2]),(oC [zI z3,(Sl.v 2 s2)]),(oC [zB b1])]) (.k0 [false,false,true,true,false,false,false] [] [0,1,3,5,21]) ?_
    replace hm:=Ag hm;rcases hm with⟨h4,hm⟩ | ⟨h4,hm⟩
    ·refine C8 (nt b3) h4 ?_
     replace hm:=pX hm;obtain⟨s5,h5,hm⟩:=hm
     replace hm:=Ae hm;obtain⟨h6,hm⟩:=hm
     replace hm:=Ae hm;obtain⟨h7,hm⟩:=hm
     replace hm:=Ab hm;obtain⟨v9,h8,hm⟩:=hm
     replace hm:=Ch hm;obtain⟨l4,rfl,hm⟩:=hm
     replace hm:=Ad hm;obtain⟨v10,l680_0,rfl,hm⟩:=hm
     replace hm:=Ad hm;obtain⟨v11,l680_1,rfl,hm⟩:=hm
     replace hm:=Ad hm;obtain⟨v12,l680_2,rfl,hm⟩:=hm
     replace hm:=Ad hm;obtain⟨v13,l680_3,rfl,hm⟩:=hm
     replace hm:=Ad hm;obtain⟨v14,l680_4,rfl,hm⟩:=hm
     replace hm:=Ad hm;obtain⟨v15,l680_5,rfl,hm⟩:=hm
     replace hm:=Ad hm;obtain⟨v16,l680_6,rfl,hm⟩:=hm
     replace hm:=AC hm;obtain⟨rfl,hm⟩:=hm
     replace hm:=Ae hm;obtain⟨h9,hm⟩:=hm
     obtain rfl:=Oo h9
     replace hm:=BG hm;obtain⟨l5,rfl,hm⟩:=hm
     replace hm:=Ad hm;obtain⟨v17,l690_0,rfl,hm⟩:=hm
     replace hm:=AC hm;obtain⟨rfl,hm⟩:=hm
     replace hm:=Ai hm;obtain⟨x2,rfl,hm⟩:=hm
     replace hm:=BG hm;obtain⟨l6,rfl,hm⟩:=hm
     replace hm:=Ad hm;obtain⟨v18,l695_0,rfl,hm⟩:=hm
     replace hm:=AC hm;obtain⟨rfl,hm⟩:=hm
     replace hm:=Ab hm;obtain⟨l7,h10,hm⟩:=hm
     obtain rfl:=Hu h10
     replace hm:=Ad hm;obtain⟨v19,l698_0,rfl,hm⟩:=hm
     replace hm:=Ad hm;obtain⟨v20,l698_1,rfl,hm⟩:=hm
     replace hm:=Ad hm;obtain⟨v21,l698_2,rfl,hm⟩:=hm
     replace hm:=AC hm;obtain⟨rfl,hm⟩:=hm
     replace hm:=Ae hm;obtain⟨h11,hm⟩:=hm
     obtain rfl:=KR h11
     replace hm:=Ae hm;obtain⟨h12,hm⟩:=hm
     obtain rfl:=KR h12
     replace hm:=Ae hm;obtain⟨h13,hm⟩:=hm
     obtain rfl:=KR h13
     replace hm:=BG hm;obtain⟨l9,rfl,hm⟩:=hm
     replace hm:=Ad hm;obtain⟨v22,l706_0,rfl,hm⟩:=hm
     replace hm:=AC hm;obtain⟨rfl,hm⟩:=hm
     replace hm:=Ab hm;obtain⟨l10,h14,hm⟩:=hm
     obtain rfl:=Hu h14
     replace hm:=Ad hm;obtain⟨v23,l709_0,rfl,hm⟩:=hm
     replace hm:=Ad hm;obtain⟨v24,l709_1,rfl,hm⟩:=hm
     replace hm:=Ad hm;obtain⟨v25,l709_2,rfl,hm⟩:=hm
     replace hm:=AC hm;obtain⟨rfl,hm⟩:=hm
     replace hm:=Ae hm;obtain⟨h15,hm⟩:=hm
     obtain rfl:=KR h15
     replace hm:=Ae hm;obtain⟨h16,hm⟩:=hm
     obtain rfl:=KR h16
     replace hm:=Ae hm;obtain⟨h17,hm⟩:=hm
     obtain rfl:=KR h17
     replace hm:=BG hm;obtain⟨l11,rfl,hm⟩:=hm
     replace hm:=Ad hm;obtain⟨v26,l717_0,rfl,hm⟩:=hm
     replace hm:=AC hm;obtain⟨rfl,hm⟩:=hm
     replace hm:=Ai hm;obtain⟨x3,rfl,hm⟩:=hm
     replace hm:=BG hm;obtain⟨l12,rfl,hm⟩:=hm
     replace hm:=Ad hm;obtain⟨v27,l722_0,rfl,hm⟩:=hm
     replace hm:=Ad hm;obtain⟨v28,l722_1,rfl,hm⟩:=hm
     replace hm:=AC hm;obtain⟨rfl,hm⟩:=hm
     replace hm:=Ai hm;obtain⟨x4,rfl,hm⟩:=hm
     replace hm:=Al hm;obtain⟨s6,rfl,hm⟩:=hm
     replace hm:=BG hm;obtain⟨l14,rfl,hm⟩:=hm
     replace hm:=Ad hm;obtain⟨v29,l730_0,rfl,hm⟩:=hm
     replace hm:=AC hm;obtain⟨rfl,hm⟩:=hm
     replace hm:=Be hm;obtain⟨b7,rfl,hm⟩:=hm
     refine .reg (eC 4 ((oo (pu 17 [Sl.v 1 s1]) none fun v=>some (v,(hT 8 [(oC [zI z1]),(oC [(.func (.func 12) ⟨[]⟩ ⟨[(pt 4 0),(pt 5 0),(pt 6 0)]⟩)]),(oC [(.func (.func 15) ⟨[]⟩ ⟨[pt 1 0,(pt 2 0),(pt 3 0)]⟩)]),(oC [zI z2]),(oC [zI z3,(Sl.v 2 s2)]),(oC [zB b1]),(oC [zI z0])])))) (AB h5) (eD (Uu (hT 8 [(oC [zI z1]),(oC [(.func (.func 12) ⟨[]⟩ ⟨[(pt 4 0),(pt 5 0),(pt 6 0)]⟩)]),(oC [(.func (.func 15) ⟨[]⟩ ⟨[pt 1 0,(pt 2 0),(pt 3 0)]⟩)]),(oC [zI z2]),(oC [zI z3,(Sl.v 2 s2)]),(oC [zB b1]),(oC [zI z0])]) 1 8 s5 1 ([zI z0]:LV)) (Wi h6) (eD (EK tabs [[some 1],[none],[none],[none]] 4 [.tmp 1 false,.tmp 2 true,.tmp 3 true,.ccap 2 0 0 false,.ccap 2 0 1 false,.ccap 2 0 2 false] [false,true,true,false,false,false] (pu 10150) [(sc 8 0 1 ((Sl.n s5)+1) (d2 ((Sl.n s5)+1))),pt 1 0,(pt 2 0),(pt 3 0)] (hT 9 [(oC [zI z1]),(oC [(.func (.func 12) ⟨[]⟩ ⟨[(pt 4 0),(pt 5 0),(pt 6 0)]⟩)]),(oC [(.func (.func 15) ⟨[]⟩ ⟨[pt 1 0,(pt 2 0),(pt 3 0)]⟩)]),(oC [zI z2]),(oC [zI z3,(Sl.v 2 s2)]),(oC [zB b1]),(oC [zI z0]),(oC (Br (Sl.cs s5) ([zI z0]:LV)))])) (EL (as:=[(Sl.v 1 (Sl.mk ((Sl.n s5)+1) 0 (Aq (((Sl.n s5)+1)*1) (Am 0 (Br (Sl.cs s5) ([zI z0]:LV)))))),pt 1 0,(pt 2 0),(pt 3 0)]) (H1:=(hT 9 [(oC [zI z1]),(oC [(.func (.func 12) ⟨[]⟩ ⟨[(pt 4 0),(pt 5 0),(pt 6 0)]⟩)]),(oC [(.func (.func 15) ⟨[]⟩ ⟨[pt 1 0,(pt 2 0),(pt 3 0)]⟩)]),(oC [zI z2]),(oC [zI z3,(Sl.v 2 s2)]),(oC [zB b1]),(oC [zI z0]),.dead])) (BS (Dm (KQ (show ER 1 (sc 8 0 1 ((Sl.n s5)+1) (d2 ((Sl.n s5)+1))) (hT 9 [(oC [zI z1]),(oC [(.func (.func 12) ⟨[]⟩ ⟨[(pt 4 0),(pt 5 0),(pt 6 0)]⟩)]),(oC [(.func (.func 15) ⟨[]⟩ ⟨[pt 1 0,(pt 2 0),(pt 3 0)]⟩)]),(oC [zI z2]),(oC [zI z3,(Sl.v 2 s2)]),(oC [zB b1]),(oC [zI z0]),(oC (Br (Sl.cs s5) ([zI z0]:LV)))])=some ((Sl.v 1 (Sl.mk ((Sl.n s5)+1) 0 (Aq (((Sl.n s5)+1)*1) (Am 0 (Br (Sl.cs s5) ([zI z0]:LV)))))),(hT 9 [(oC [zI z1]),(oC [(.func (.func 12) ⟨[]⟩ ⟨[(pt 4 0),(pt 5 0),(pt 6 0)]⟩)]),(oC [(.func (.func 15) ⟨[]⟩ ⟨[pt 1 0,(pt 2 0),(pt 3 0)]⟩)]),(oC [zI z2]),(oC [zI z3,(Sl.v 2 s2)]),(oC [zB b1]),(oC [zI z0]),.dead])) from KH 8 0 1 ((Sl.n s5)+1) (d2 ((Sl.n s5)+1)) (Br (Sl.cs s5) ([zI z0]:LV)) [] (by kernel_rfl) (by kernel_rfl) h7))) (BS (Dm Dk) (BS (Dm Dk) (BS (Dm Dk) Gj)))) (EI (H2:=(hT 9 [(oC [zI x2]),(oC [(.func (.func 12) ⟨[]⟩ ⟨[(pt 4 0),(pt 5 0),(pt 6 0)]⟩)]),(oC [(.func (.func 15) ⟨[]⟩ ⟨[pt 1 0,(pt 2 0),(pt 3 0)]⟩)]),(oC [zI x3]),(oC [zI x4,(Sl.v 2 s6)]),(oC [zB b7]),(oC [zI z0]),.dead])) (v:=(.tuple ⟨[]⟩)) (v':=(.tuple ⟨[]⟩)) [some 0,some 1,some 2,some 3,some 4,some 5,some 6] [(false,some 1),(true,some 2),(true,some 3),(false,some 4),(false,some 5),(false,some 6)] [(oC [zI z1]),(oC [(.func (.func 12) ⟨[]⟩ ⟨[(pt 4 0),(pt 5 0),(pt 6 0)]⟩)]),(oC [(.func (.func 15) ⟨[]⟩ ⟨[pt 1 0,(pt 2 0),(pt 3 0)]⟩)]),(oC [zI z2]),(oC [zI z3,(Sl.v 2 s2)]),(oC [zB b1])] [(Sl.v 1 (Sl.mk ((Sl.n s5)+1) 0 (Aq (((Sl.n s5)+1)*1) (Am 0 (Br (Sl.cs s5) ([zI z0]:LV)))))),pt 1 0,(pt 2 0),(pt 3 0)] [(.agg ⟨[zI x2]⟩),(.agg ⟨[(.func (.func 12) ⟨[]⟩ ⟨[(pt 4 0),(pt 5 0),(pt 6 0)]⟩)]⟩),(.agg ⟨[(.func (.func 15) ⟨[]⟩ ⟨[pt 1 0,(pt 2 0),(pt 3 0)]⟩)]⟩),(.agg ⟨[zI x3]⟩),(.agg ⟨[zI x4,(Sl.v 2 s6)]⟩),(.agg ⟨[zB b7]⟩)] [(oC [zI x2]),(oC [(.func (.func 12) ⟨[]⟩ ⟨[(pt 4 0),(pt 5 0),(pt 6 0)]⟩)]),(oC [(.func (.func 15) ⟨[]⟩ ⟨[pt 1 0,(pt 2 0),(pt 3 0)]⟩)]),(oC [zI x3]),(oC [zI x4,(Sl.v 2 s6)]),(oC [zB b7])] [some 0,some 1,some 2,some 3,some 4,some 5,some 6,none,none] [(false,(oC [zI x2])),(true,(oC [(.func (.func 12) ⟨[]⟩ ⟨[(pt 4 0),(pt 5 0),(pt 6 0)]⟩)])),(true,(oC [(.func (.func 15) ⟨[]⟩ ⟨[pt 1 0,(pt 2 0),(pt 3 0)]⟩)])),(false,(oC [zI x3])),(false,(oC [zI x4,(Sl.v 2 s6)])),(false,(oC [zB b7]))] [(oC [zI x2]),(oC [(.func (.func 12) ⟨[]⟩ ⟨[(pt 4 0),(pt 5 0),(pt 6 0)]⟩)]),(oC [(.func (.func 15) ⟨[]⟩ ⟨[pt 1 0,(pt 2 0),(pt 3 0)]⟩)]),(oC [zI x3]),(oC [zI x4,(Sl.v 2 s6)]),(oC [zB b7])] (by kernel_rfl) (En (by kernel_rfl) (En (by kernel_rfl) (En (by kernel_rfl) (En (by kernel_rfl) (En (by kernel_rfl) (En (by kernel_rfl) BX)))))) (Eq.trans (by kernel_rfl) h8) (En rfl (En rfl (En rfl (En rfl (En rfl (En rfl BX)))))) (En (by kernel_rfl) (En (by kernel_rfl) (En (by kernel_rfl) (En (by kernel_rfl) (En (by kernel_rfl) (En (by kernel_rfl) BX)))))))) (eE)))) ?_
     exact⟨(s1,z0,x2,x3,x4,s6,b7),hm,(.k0 [false,false,true,true,false,false,false] [] [0,1,3,5])⟩
    ·refine Dn (nt b3) h4 ?_
     refine .skip ?_
     exact⟨(s1,z0,z1,z2,z3,s2,b1),hm,(.k0 [false,false,true,true,false,false,false] [] [0,1,3,5])⟩
  ·refine Dn (AY z0 z1) h2 ?_
   refine .exit ?_
   refine .ghs (fr 29 []) (hT 7 [(oC [zI z1]),(oC [(.func (.func 12) ⟨[]⟩ ⟨[(pt 4 0),(pt 5 0),(pt 6 0)]⟩)]),(oC [(.func (.func 15) ⟨[]⟩ ⟨[pt 1 0,(pt 2 0),(pt 3 0)]⟩)]),(oC [zI z2]),(oC [zI z3,(Sl.v 2 s2)]),(oC [zB b1])]) (.k0 [false,false,true,true,false,false,false] [] []) ?_
   exact TU (.tuple ⟨[]⟩) [(oC [zI z1]),(oC [(.func (.func 12) ⟨[]⟩ ⟨[(pt 4 0),(pt 5 0),(pt 6 0)]⟩)]),(oC [(.func (.func 15) ⟨[]⟩ ⟨[pt 1 0,(pt 2 0),(pt 3 0)]⟩)]),(oC [zI z2]),(oC [zI z3,(Sl.v 2 s2)]),(oC [zB b1])] (by kernel_rfl) hm (Nat.le_of_ble_eq_true rfl) (Fa (VT _) (Fa (VT _) (Fa (VT _) (Fa (VT _) (Fa (VT _) (Fa (VT _) EJ))))))
theorem UW {call:A8} (pu:Af) (n:Nat) (hcall:call=Bb tabs Eo pu (inl pu)) {args:LV} {os:List AJ} {z:Value} (ha:args.length=4) (hk:os.length=6) (hpl:∀ o∈os,plainO o) (hm:Iz pu n (args++os.map Ef)=some z):args.length≤29∧BN tt call (tabs.length+6) Hw (Fr.made 29 args) (BK tabs os) (FJ tt tabs.length 6 [] z):=by
 subst hcall
 have hq:=BC ha;clear ha;obtain⟨a0,args,rfl,ha⟩:=hq
 have hq:=BC ha;clear ha;obtain⟨a1,args,rfl,ha⟩:=hq
 have hq:=BC ha;clear ha;obtain⟨a2,args,rfl,ha⟩:=hq
 have hq:=BC ha;clear ha;obtain⟨a3,args,rfl,ha⟩:=hq
 obtain rfl:=len_nil ha
 have hq:=BC hk;clear hk;obtain⟨b0,os,rfl,hk⟩:=hq
 have hp0:plainO b0:=hpl b0 (by simp)
 have hq:=BC hk;clear hk;obtain⟨b1,os,rfl,hk⟩:=hq
 have hp1:plainO b1:=hpl b1 (by simp)
 have hq:=BC hk;clear hk;obtain⟨b2,os,rfl,hk⟩:=hq
 have hp2:plainO b2:=hpl b2 (by simp)
 have hq:=BC hk;clear hk;obtain⟨b3,os,rfl,hk⟩:=hq
 have hp3:plainO b3:=hpl b3 (by simp)
 have hq:=BC hk;clear hk;obtain⟨b4,os,rfl,hk⟩:=hq
 have hp4:plainO b4:=hpl b4 (by simp)
 have hq:=BC hk;clear hk;obtain⟨b5,os,rfl,hk⟩:=hq
 have hp5:plainO b5:=hpl b5 (by simp)
 obtain rfl:=len_nil hk
 replace hm:Iz pu n [a0,a1,a2,a3,Ef b0,Ef b1,Ef b2,Ef b3,Ef b4,Ef b5]=some z:=hm
 unfold Iz at hm
 replace hm:(oo (Bj 1 a0) none fun s0=>(bb (MK a1 1 0) (bb (MK a2 2 0) (bb (MK a3 3 0) (oo (Bt (Ef b0)) none fun l0=>(ll l0 none fun v0 l0=>(ll l0 (oo (Bi .i64 v0) none fun x0=>(oo (Bt (Ef b1)) none fun l1=>(ll l1 none fun v1 l1=>(ll l1 (oo (Om 12 0 v1) none fun l2=>(ll l2 none fun v2 l2=>(ll l2 none fun v3 l2=>(ll l2 none fun v4 l2=>(ll l2 (bb (MK v2 4 0) (bb (MK v3 5 0) (bb (MK v4 6 0) (oo (Bt (Ef b2)) none fun l3=>(ll l3 none fun v5 l3=>(ll l3 (oo (Om 15 0 v5) none fun l4=>(ll l4 none fun v6 l4=>(ll l4 none fun v7 l4=>(ll l4 none fun v8 l4=>(ll l4 (bb (MK v6 1 0) (bb (MK v7 2 0) (bb (MK v8 3 0) (oo (Bt (Ef b3)) none fun l5=>(ll l5 none fun v9 l5=>(ll l5 (oo (Bi .i64 v9) none fun x1=>(oo (Bt (Ef b4)) none fun l6=>(ll l6 none fun v10 l6=>(ll l6 none fun v11 l6=>(ll l6 (oo (Bi .i64 v10) none fun x2=>(oo (Bj 2 v11) none fun s1=>(oo (Bt (Ef b5)) none fun l7=>(ll l7 none fun v12 l7=>(ll l7 (oo (Bf v12) none fun b7=>(FD pu n s0 x0 x1 x2 s1 b7)) fun _ _=>none))))) fun _ _=>none))))) fun _ _=>none))) none) none) none) fun _ _=>none))))) fun _ _=>none))) none) none) none) fun _ _=>none))))) fun _ _=>none)))) fun _ _=>none))) none) none) none))=some z:=hm
 replace hm:=Al hm;obtain⟨s0,rfl,hm⟩:=hm
 replace hm:=Ae hm;obtain⟨h0,hm⟩:=hm
 obtain rfl:=KR h0
 replace hm:=Ae hm;obtain⟨h1,hm⟩:=hm
 obtain rfl:=KR h1
 replace hm:=Ae hm;obtain⟨h2,hm⟩:=hm
 obtain rfl:=KR h2
 replace hm:=Ab hm;obtain⟨l0,h3,hm⟩:=hm
 obtain rfl:=I7 hp0 h3
 replace hm:=Ad hm;obtain⟨v0,l745_0,rfl,hm⟩:=hm
 replace hm:=AC hm;obtain⟨rfl,hm⟩:=hm
 replace hm:=Ai hm;obtain⟨x0,rfl,hm⟩:=hm
 replace hm:=Ab hm;obtain⟨l1,h4,hm⟩:=hm
 obtain rfl:=I7 hp1 h4
 replace hm:=Ad hm;obtain⟨v1,l750_0,rfl,hm⟩:=hm
 replace hm:=AC hm;obtain⟨rfl,hm⟩:=hm
 replace hm:=Ab hm;obtain⟨l2,h5,hm⟩:=hm
 obtain rfl:=Hu h5
 replace hm:=Ad hm;obtain⟨v2,l753_0,rfl,hm⟩:=hm
 replace hm:=Ad hm;obtain⟨v3,l753_1,rfl,hm⟩:=hm
 replace hm:=Ad hm;obtain⟨v4,l753_2,rfl,hm⟩:=hm
 replace hm:=AC hm;obtain⟨rfl,hm⟩:=hm
 replace hm:=Ae hm;obtain⟨h6,hm⟩:=hm
 obtain rfl:=KR h6
 replace hm:=Ae hm;obtain⟨h7,hm⟩:=hm
 obtain rfl:=KR h7
 replace hm:=Ae hm;obtain⟨h8,hm⟩:=hm
 obtain rfl:=KR h8
 replace hm:=Ab hm;obtain⟨l3,h9,hm⟩:=hm
 obtain rfl:=I7 hp2 h9
 replace hm:=Ad hm;obtain⟨v5,l761_0,rfl,hm⟩:=hm
 replace hm:=AC hm;obtain⟨rfl,hm⟩:=hm
 replace hm:=Ab hm;obtain⟨l4,h10,hm⟩:=hm
 obtain rfl:=Hu h10
 replace hm:=Ad hm;obtain⟨v6,l764_0,rfl,hm⟩:=hm
 replace hm:=Ad hm;obtain⟨v7,l764_1,rfl,hm⟩:=hm
 replace hm:=Ad hm;obtain⟨v8,l764_2,rfl,hm⟩:=hm
 replace hm:=AC hm;obtain⟨rfl,hm⟩:=hm
 replace hm:=Ae hm;obtain⟨h11,hm⟩:=hm
 obtain rfl:=KR h11
 replace hm:=Ae hm;obtain⟨h12,hm⟩:=hm
 obtain rfl:=KR h12
 replace hm:=Ae hm;obtain⟨h13,hm⟩:=hm
 obtain rfl:=KR h13
 replace hm:=Ab hm;obtain⟨l5,h14,hm⟩:=hm
 obtain rfl:=I7 hp3 h14
 replace hm:=Ad hm;obtain⟨v9,l772_0,rfl,hm⟩:=hm
 replace hm:=AC hm;obtain⟨rfl,hm⟩:=hm
 replace hm:=Ai hm;obtain⟨x1,rfl,hm⟩:=hm
 replace hm:=Ab hm;obtain⟨l6,h15,hm⟩:=hm
 obtain rfl:=I7 hp4 h15
 replace hm:=Ad hm;obtain⟨v10,l777_0,rfl,hm⟩:=hm
 replace hm:=Ad hm;obtain⟨v11,l777_1,rfl,hm⟩:=hm
 replace hm:=AC hm;obtain⟨rfl,hm⟩:=hm
 replace hm:=Ai hm;obtain⟨x2,rfl,hm⟩:=hm
 replace hm:=Al hm;obtain⟨s1,rfl,hm⟩:=hm
 replace hm:=Ab hm;obtain⟨l7,h16,hm⟩:=hm
 obtain rfl:=I7 hp5 h16
 replace hm:=Ad hm;obtain⟨v12,l785_0,rfl,hm⟩:=hm
 replace hm:=AC hm;obtain⟨rfl,hm⟩:=hm
 replace hm:=Be hm;obtain⟨b7,rfl,hm⟩:=hm
 refine⟨by simp,?_⟩
 exact .same (F':=(fr 29 [(0,Sl.v 1 s0),(1,pt 1 0),(2,(pt 2 0)),(3,(pt 3 0))])) (H':=(hT 7 [(oC [zI x0]),(oC [(.func (.func 12) ⟨[]⟩ ⟨[(pt 4 0),(pt 5 0),(pt 6 0)]⟩)]),(oC [(.func (.func 15) ⟨[]⟩ ⟨[pt 1 0,(pt 2 0),(pt 3 0)]⟩)]),(oC [zI x1]),(oC [zI x2,(Sl.v 2 s1)]),(oC [zB b7])])) (by kernel_rfl) (by kernel_rfl) (UV pu n s0 x0 x1 x2 s1 b7 hm)
end
end Go.TbGM
set_option maxRecDepth 100000
set_option maxHeartbeats 20000000
set_option linter.unusedVariables false
namespace Go.TbGM
open Go.Sp Go.TbG
noncomputable section
def DL (pu:Af) (n:Nat) (s0:Sl) (b0:Bool) (z0 z1:Int) (s1:Sl) (b1:Bool):OV:=
 (bb b0 (oo (pu 8 [(.agg ⟨[.int .i64 z1,(Sl.v 2 s1)]⟩),Sl.v 1 s0,(.int .i64 (-1:Int))]) none fun v0=>(oo (CQ v0) none fun l0=>(ll l0 none fun v1 l0=>(ll l0 none fun v2 l0=>(ll l0 (oo (Bj 1 v1) none fun s2=>(oo (Bj 1 v2) none fun s3=>(bb b1 (oo (pu 13 [Sl.v 1 s2]) none fun v3=>(oo (Bf v3) none fun b2=>(some (.tuple ⟨[(.tuple ⟨[]⟩),(.agg ⟨[.int .i64 z0]⟩),(.agg ⟨[.int .i64 z1,(Sl.v 2 s1)]⟩),(.agg ⟨[(.bool b2)]⟩)]⟩)))) (some (.tuple ⟨[(.tuple ⟨[]⟩),(.agg ⟨[.int .i64 z0]⟩),(.agg ⟨[.int .i64 z1,(Sl.v 2 s1)]⟩),(.agg ⟨[(.bool false)]⟩)]⟩))))) fun _ _=>none))))) (some (.tuple ⟨[(.tuple ⟨[]⟩),(.agg ⟨[.int .i64 z0]⟩),(.agg ⟨[.int .i64 z1,(Sl.v 2 s1)]⟩),(.agg ⟨[(.bool b1)]⟩)]⟩)))
def Gn (pu:Af) (n:Nat) (s48:Sl) (z49 z50:Int) (s51:Sl) (b52:Bool):OV:=
 (bb (nt (Nat.beq (Sl.fl s48) 2)) (oo (EA z49) none fun k1=>(bb (Nat.ble k1 (Sl.n s48)) (oo (pu 13 [(Sl.v 1 (Sl.mk (k1 - 0) (bb (an (Nat.beq k1 (Sl.n s48)) (Dp false (Nat.beq (Sl.fl s48) 1))) 1 0) (Aq ((k1 - 0)*1) (Am (0*1) (Sl.cs s48)))))]) none fun v0=>(oo (Bf v0) none fun b0=>(bb b0 (bb (nt (Nat.beq (Sl.fl s48) 2)) (bb (Nat.ble k1 (Sl.n s48)) (oo (pu 13 [(Sl.v 1 (Sl.mk ((Sl.n s48) - k1) (bb (an (Nat.beq (Sl.n s48) (Sl.n s48)) (Dp false (Nat.beq (Sl.fl s48) 1))) 1 0) (Aq (((Sl.n s48) - k1)*1) (Am (k1*1) (Sl.cs s48)))))]) none fun v1=>(oo (Bf v1) none fun b1=>(DL pu n s48 b1 (Int.ofNat k1) z50 s51 b52))) none) none) (DL pu n s48 false (Int.ofNat k1) z50 s51 b52)))) none)) none)
def IB (pu:Af) (n:Nat) (args:LV):OV:=
 (ll args none fun a0 args=>(ll args none fun a1 args=>(ll args none fun a2 args=>(ll args none fun a3 args=>(ll args none fun o0 args=>(ll args none fun o1 args=>(ll args none fun o2 args=>(ll args (oo (Bj 1 a0) none fun s0=>(bb (MK a1 1 0) (bb (MK a2 2 0) (bb (MK a3 3 0) (oo (Bt o0) none fun l0=>(ll l0 none fun v0 l0=>(ll l0 (oo (Bi .i64 v0) none fun x0=>(oo (Bt o1) none fun l1=>(ll l1 none fun v1 l1=>(ll l1 none fun v2 l1=>(ll l1 (oo (Bi .i64 v1) none fun x1=>(oo (Bj 2 v2) none fun s1=>(oo (Bt o2) none fun l2=>(ll l2 none fun v3 l2=>(ll l2 (oo (Bf v3) none fun b0=>(Gn pu n s0 x0 x1 s1 b0)) fun _ _=>none))))) fun _ _=>none))))) fun _ _=>none))) none) none) none)) fun _ _=>none))))))))
theorem O9 (pu:Af) (n:Nat) (s0:Sl) (b0:Bool) (z0 z1:Int) (s1:Sl) (b1:Bool) {v:Value} (hm:DL pu n s0 b0 z0 z1 s1 b1=some v):BN tt (Bb tabs Eo pu (inl pu)) 4 RQ (fr 28 [(0,Sl.v 1 s0),(2,(pt 2 0)),(3,(pt 3 0)),(16,zB b0)]) (hT 4 [(oC [zI z0]),(oC [zI z1,(Sl.v 2 s1)]),(oC [zB b1])]) (FJ tt 1 3 [] v):=by
 unfold DL at hm
 replace hm:=Ag hm;rcases hm with⟨h0,hm⟩ | ⟨h0,hm⟩
 ·refine .ifT b0 (by kernel_rfl) h0 ?_
  refine .then ?_
  replace hm:=Ab hm;obtain⟨v0,h1,hm⟩:=hm
  replace hm:=Ch hm;obtain⟨l0,rfl,hm⟩:=hm
  replace hm:=Ad hm;obtain⟨v1,l132_0,rfl,hm⟩:=hm
  replace hm:=Ad hm;obtain⟨v2,l132_1,rfl,hm⟩:=hm
  replace hm:=AC hm;obtain⟨rfl,hm⟩:=hm
  replace hm:=Al hm;obtain⟨s2,rfl,hm⟩:=hm
  replace hm:=Al hm;obtain⟨s3,rfl,hm⟩:=hm
  refine .reg (eC 2 ((oo (pu 8 [(.agg ⟨[zI z1,(Sl.v 2 s1)]⟩),Sl.v 1 s0,(zI (-1:Int))]) none fun v=>some (v,(hT 4 [(oC [zI z0]),(oC [zI z1,(Sl.v 2 s1)]),(oC [zB b1])])))) (AB h1) (eE)) ?_
  refine .ghs (fr 28 [(3,(pt 3 0)),(5,Sl.v 1 s2)]) (hT 4 [(oC [zI z0]),(oC [zI z1,(Sl.v 2 s1)]),(oC [zB b1])]) (.k0 [false,false,false,false] [] [3,5]) ?_
  replace hm:=Ag hm;rcases hm with⟨h2,hm⟩ | ⟨h2,hm⟩
  ·replace hm:=O3 hm;obtain⟨b2,h3,hm⟩:=hm
   refine .reg (eD (some ((zB b1),(hT 4 [(oC [zI z0]),(oC [zI z1,(Sl.v 2 s1)]),(oC [zB b1])]))) (show _=some ((zB true),_) from (congrArg (fun bz=>some ((zB bz),(hT 4 [(oC [zI z0]),(oC [zI z1,(Sl.v 2 s1)]),(oC [zB b1])]))) (show b1=true from h2))) (eC 2 ((oo (pu 13 [Sl.v 1 s2]) none fun v=>some (v,(hT 4 [(oC [zI z0]),(oC [zI z1,(Sl.v 2 s1)]),(oC [zB b1])])))) (AB h3) (eE))) ?_
   refine .ghs (fr 28 []) (hT 4 [(oC [zI z0]),(oC [zI z1,(Sl.v 2 s1)]),(oC [zB b2])]) (.k0 [false,false,false,false] [] []) ?_
   exact TU (.tuple ⟨[]⟩) [(oC [zI z0]),(oC [zI z1,(Sl.v 2 s1)]),(oC [zB b2])] (by kernel_rfl) hm (Nat.le_of_ble_eq_true rfl) (Fa (VT _) (Fa (VT _) (Fa (VT _) EJ)))
  ·refine .reg (eD (some ((zB b1),(hT 4 [(oC [zI z0]),(oC [zI z1,(Sl.v 2 s1)]),(oC [zB b1])]))) (show _=some ((zB false),_) from (congrArg (fun bz=>some ((zB bz),(hT 4 [(oC [zI z0]),(oC [zI z1,(Sl.v 2 s1)]),(oC [zB b1])]))) (show b1=false from h2))) (eE)) ?_
   refine .ghs (fr 28 []) (hT 4 [(oC [zI z0]),(oC [zI z1,(Sl.v 2 s1)]),(oC [zB false])]) (.k0 [false,false,false,false] [] []) ?_
   exact TU (.tuple ⟨[]⟩) [(oC [zI z0]),(oC [zI z1,(Sl.v 2 s1)]),(oC [zB false])] (by kernel_rfl) hm (Nat.le_of_ble_eq_true rfl) (Fa (VT _) (Fa (VT _) (Fa (VT _) EJ)))
 ·refine .ifF b0 (by kernel_rfl) h0 ?_
  refine .skip (.ghs (fr 28 []) (hT 4 [(oC [zI z0]),(oC [zI z1,(Sl.v 2 s1)]),(oC [zB b1])]) (.k0 [false,false,false,false] [] []) ?_)
  exact TU (.tuple ⟨[]⟩) [(oC [zI z0]),(oC [zI z1,(Sl.v 2 s1)]),(oC [zB b1])] (by kernel_rfl) hm (Nat.le_of_ble_eq_true rfl) (Fa (VT _) (Fa (VT _) (Fa (VT _) EJ)))
theorem UX (pu:Af) (n:Nat) (s48:Sl) (z49 z50:Int) (s51:Sl) (b52:Bool) {v:Value} (hm:Gn pu n s48 z49 z50 s51 b52=some v):BN tt (Bb tabs Eo pu (inl pu)) 4 KZ (fr 28 [(0,Sl.v 1 s48),(1,pt 1 0),(2,(pt 2 0)),(3,(pt 3 0))]) (hT 4 [(oC [zI z49]),(oC [zI z50,(Sl.v 2 s51)]),(oC [zB b52])]) (FJ tt 1 3 [] v):=by
 unfold Gn at hm
 refine .join (v:=v) (fun y:Sl×Bool×Int×Int×Sl×Bool=>((fr 28 [(0,(Sl.v 1 y.1)),(2,(pt 2 0)),(3,(pt 3 0)),(16,(zB y.2.1))]),(hT 4 [(oC [(zI y.2.2.1)]),(oC [(zI y.2.2.2.1),(Sl.v 2 y.2.2.2.2.1)]),(oC [(zB y.2.2.2.2.2)])]))) (fun y=>DL pu n y.1 y.2.1 y.2.2.1 y.2.2.2.1 y.2.2.2.2.1 y.2.2.2.2.2) ?_ ?_
 ·rintro⟨s0,b0,z0,z1,s1,b1⟩ hm
  exact O9 pu n s0 b0 z0 z1 s1 b1 hm
 ·replace hm:=Ae hm;obtain⟨h0,hm⟩:=hm
  replace hm:=Ab hm;obtain⟨k1,h1,hm⟩:=hm
  obtain rfl:=AR h1
  replace hm:=Ae hm;obtain⟨h2,hm⟩:=hm
  replace hm:=O3 hm;obtain⟨b2,h3,hm⟩:=hm
  replace hm:=Ag hm;rcases hm with⟨h4,hm⟩ | ⟨h4,hm⟩
  ·replace hm:=Ae hm;obtain⟨h5,hm⟩:=hm
   replace hm:=Ae hm;obtain⟨h6,hm⟩:=hm
   replace hm:=O3 hm;obtain⟨b3,h7,hm⟩:=hm
   refine .reg (eC 2 (keep (hT 4 [(oC [(zI (Int.ofNat k1))]),(oC [zI z50,(Sl.v 2 s51)]),(oC [zB b52])]) (Ns Wl ⟨1,(Sl.n s48),(Sl.fl s48),(Sl.cs s48)⟩ none (some (zI (Int.ofNat k1))) none)) (ME (c1:=(Nat.ble k1 (Sl.n s48))) (c2:=true) (l:=0) (h:=k1) h0 (by kernel_rfl) (by kernel_rfl) h2 (by kernel_rfl) rfl) (eD ((oo (pu 13 [(Sl.v 1 (Sl.mk (k1 - 0) (bb (an (Nat.beq k1 (Sl.n s48)) (Dp false (Nat.beq (Sl.fl s48) 1))) 1 0) (Aq ((k1 - 0)*1) (Am (0*1) (Sl.cs s48)))))]) none fun v=>some (v,(hT 4 [(oC [(zI (Int.ofNat k1))]),(oC [zI z50,(Sl.v 2 s51)]),(oC [zB b52])])))) (show _=some ((zB true),_) from (by have hz:(oo (pu 13 [(Sl.v 1 (Sl.mk (k1 - 0) (bb (an (Nat.beq k1 (Sl.n s48)) (Dp false (Nat.beq (Sl.fl s48) 1))) 1 0) (Aq ((k1 - 0)*1) (Am (0*1) (Sl.cs s48)))))]) none fun v=>some (v,(hT 4 [(oC [(zI (Int.ofNat k1))]),(oC [zI z50,(Sl.v 2 s51)]),(oC [zB b52])])))=some ((zB b2),(hT 4 [(oC [(zI (Int.ofNat k1))]),(oC [zI z50,(Sl.v 2 s51)]),(oC [zB b52])])):=(AB h3);rw[h4] at hz;exact hz)) (eC 3 (keep (hT 4 [(oC [(zI (Int.ofNat k1))]),(oC [zI z50,(Sl.v 2 s51)]),(oC [zB b52])]) (Ns Wl ⟨1,(Sl.n s48),(Sl.fl s48),(Sl.cs s48)⟩ (some (zI (Int.ofNat k1))) none none)) (ME (c1:=true) (c2:=(Nat.ble k1 (Sl.n s48))) (l:=k1) (h:=(Sl.n s48)) h5 (by kernel_rfl) (by kernel_rfl) rfl (by kernel_rfl) h6) (eD ((oo (pu 13 [(Sl.v 1 (Sl.mk ((Sl.n s48) - k1) (bb (an (Nat.beq (Sl.n s48) (Sl.n s48)) (Dp false (Nat.beq (Sl.fl s48) 1))) 1 0) (Aq (((Sl.n s48) - k1)*1) (Am (k1*1) (Sl.cs s48)))))]) none fun v=>some (v,(hT 4 [(oC [(zI (Int.ofNat k1))]),(oC [zI z50,(Sl.v 2 s51)]),(oC [zB b52])])))) (AB h7) (eE))))) ?_
   exact⟨(s48,b3,(Int.ofNat k1),z50,s51,b52),hm,(.k0 [false,false,false,false] [] [0,2,3,16])⟩
  ·refine .reg (eC 2 (keep (hT 4 [(oC [(zI (Int.ofNat k1))]),(oC [zI z50,(Sl.v 2 s51)]),(oC [zB b52])]) (Ns Wl ⟨1,(Sl.n s48),(Sl.fl s48),(Sl.cs s48)⟩ none (some (zI (Int.ofNat k1))) none)) (ME (c1:=(Nat.ble k1 (Sl.n s48))) (c2:=true) (l:=0) (h:=k1) h0 (by kernel_rfl) (by kernel_rfl) h2 (by kernel_rfl) rfl) (eD ((oo (pu 13 [(Sl.v 1 (Sl.mk (k1 - 0) (bb (an (Nat.beq k1 (Sl.n s48)) (Dp false (Nat.beq (Sl.fl s48) 1))) 1 0) (Aq ((k1 - 0)*1) (Am (0*1) (Sl.cs s48)))))]) none fun v=>some (v,(hT 4 [(oC [(zI (Int.ofNat k1))]),(oC [zI z50,(Sl.v 2 s51)]),(oC [zB b52])])))) (show _=some ((zB false),_) from (by have hz:(oo (pu 13 [(Sl.v 1 (Sl.mk (k1 - 0) (bb (an (Nat.beq k1 (Sl.n s48)) (Dp false (Nat.beq (Sl.fl s48) 1))) 1 0) (Aq ((k1 - 0)*1) (Am (0*1) (Sl.cs s48)))))]) none fun v=>some (v,(hT 4 [(oC [(zI (Int.ofNat k1))]),(oC [zI z50,(Sl.v 2 s51)]),(oC [zB b52])])))=some ((zB b2),(hT 4 [(oC [(zI (Int.ofNat k1))]),(oC [zI z50,(Sl.v 2 s51)]),(oC [zB b52])])):=(AB h3);rw[h4] at hz;exact hz)) (eE))) ?_
   exact⟨(s48,false,(Int.ofNat k1),z50,s51,b52),hm,(.k0 [false,false,false,false] [] [0,2,3,16])⟩
theorem UY {call:A8} (pu:Af) (n:Nat) (hcall:call=Bb tabs Eo pu (inl pu)) {args:LV} {os:List AJ} {z:Value} (ha:args.length=4) (hk:os.length=3) (hpl:∀ o∈os,plainO o) (hm:IB pu n (args++os.map Ef)=some z):args.length≤28∧BN tt call (tabs.length+3) KZ (Fr.made 28 args) (BK tabs os) (FJ tt tabs.length 3 [] z):=by
 subst hcall
 have hq:=BC ha;clear ha;obtain⟨a0,args,rfl,ha⟩:=hq
 have hq:=BC ha;clear ha;obtain⟨a1,args,rfl,ha⟩:=hq
 have hq:=BC ha;clear ha;obtain⟨a2,args,rfl,ha⟩:=hq
 have hq:=BC ha;clear ha;obtain⟨a3,args,rfl,ha⟩:=hq
 obtain rfl:=len_nil ha
 have hq:=BC hk;clear hk;obtain⟨b0,os,rfl,hk⟩:=hq
 have hp0:plainO b0:=hpl b0 (by simp)
 have hq:=BC hk;clear hk;obtain⟨b1,os,rfl,hk⟩:=hq
 have hp1:plainO b1:=hpl b1 (by simp)
 have hq:=BC hk;clear hk;obtain⟨b2,os,rfl,hk⟩:=hq
 have hp2:plainO b2:=hpl b2 (by simp)
 obtain rfl:=len_nil hk
 replace hm:IB pu n [a0,a1,a2,a3,Ef b0,Ef b1,Ef b2]=some z:=hm
 unfold IB at hm
 replace hm:(oo (Bj 1 a0) none fun s0=>(bb (MK a1 1 0) (bb (MK a2 2 0) (bb (MK a3 3 0) (oo (Bt (Ef b0)) none fun l0=>(ll l0 none fun v0 l0=>(ll l0 (oo (Bi .i64 v0) none fun x0=>(oo (Bt (Ef b1)) none fun l1=>(ll l1 none fun v1 l1=>(ll l1 none fun v2 l1=>(ll l1 (oo (Bi .i64 v1) none fun x1=>(oo (Bj 2 v2) none fun s1=>(oo (Bt (Ef b2)) none fun l2=>(ll l2 none fun v3 l2=>(ll l2 (oo (Bf v3) none fun b3=>(Gn pu n s0 x0 x1 s1 b3)) fun _ _=>none))))) fun _ _=>none))))) fun _ _=>none))) none) none) none))=some z:=hm
 replace hm:=Al hm;obtain⟨s0,rfl,hm⟩:=hm
 replace hm:=Ae hm;obtain⟨h0,hm⟩:=hm
 obtain rfl:=KR h0
 replace hm:=Ae hm;obtain⟨h1,hm⟩:=hm
 obtain rfl:=KR h1
 replace hm:=Ae hm;obtain⟨h2,hm⟩:=hm
 obtain rfl:=KR h2
 replace hm:=Ab hm;obtain⟨l0,h3,hm⟩:=hm
 obtain rfl:=I7 hp0 h3
 replace hm:=Ad hm;obtain⟨v0,l197_0,rfl,hm⟩:=hm
 replace hm:=AC hm;obtain⟨rfl,hm⟩:=hm
 replace hm:=Ai hm;obtain⟨x0,rfl,hm⟩:=hm
 replace hm:=Ab hm;obtain⟨l1,h4,hm⟩:=hm
 obtain rfl:=I7 hp1 h4
 replace hm:=Ad hm;obtain⟨v1,l202_0,rfl,hm⟩:=hm
 replace hm:=Ad hm;obtain⟨v2,l202_1,rfl,hm⟩:=hm
 replace hm:=AC hm;obtain⟨rfl,hm⟩:=hm
 replace hm:=Ai hm;obtain⟨x1,rfl,hm⟩:=hm
 replace hm:=Al hm;obtain⟨s1,rfl,hm⟩:=hm
 replace hm:=Ab hm;obtain⟨l2,h5,hm⟩:=hm
 obtain rfl:=I7 hp2 h5
 replace hm:=Ad hm;obtain⟨v3,l210_0,rfl,hm⟩:=hm
 replace hm:=AC hm;obtain⟨rfl,hm⟩:=hm
 replace hm:=Be hm;obtain⟨b3,rfl,hm⟩:=hm
 refine⟨by simp,?_⟩
 exact .same (F':=(fr 28 [(0,Sl.v 1 s0),(1,pt 1 0),(2,(pt 2 0)),(3,(pt 3 0))])) (H':=(hT 4 [(oC [zI x0]),(oC [zI x1,(Sl.v 2 s1)]),(oC [zB b3])])) (by kernel_rfl) (by kernel_rfl) (UX pu n s0 x0 x1 s1 b3 hm)
end
end Go.TbGM
set_option maxRecDepth 100000
namespace Go.TbGM
open Go.Sp Go.TbG
noncomputable section
def L:Nat:=1000000
def Pb (pu:Af):Af:=fun g args=>
 bb (Nat.beq g 4) (m4 pu L args) (bb (Nat.beq g 5) (m5 pu L args) (bb (Nat.beq g 8) (m8 pu L args) (bb (Nat.beq g 13) (iE pu L args) (bb (Nat.beq g 14) (iF pu L args) (bb (Nat.beq g 16) (iG pu L args) (bb (Nat.beq g 17) (iH pu L args) (bb (Nat.beq g 20) (iI pu L args) (bb (Nat.beq g 23) (iJ pu L args) (bb (Nat.beq g 39) (iK pu L args) (bb (Nat.beq g 40) (iL pu L args) (bb (Nat.beq g 41) (iM pu L args) (bb (Nat.beq g 42) (iN pu L args) (bb (Nat.beq g 53) (iO pu L args) (bb (Nat.beq g 10060) (Iy pu L args) (bb (Nat.beq g 10150) (Iz pu L args) (bb (Nat.beq g 10120) (IB pu L args) (bb (Nat.beq g 11) (ll args (some (.bool true)) fun _ _=>none) (none))))))))))))))))))
def Bn:Nat→Af:=fun n=>Nat.rec (motive:=fun _=>Af) (fun _ _=>none) (fun _ ih=>Pb ih) n
end
end Go.TbGM
