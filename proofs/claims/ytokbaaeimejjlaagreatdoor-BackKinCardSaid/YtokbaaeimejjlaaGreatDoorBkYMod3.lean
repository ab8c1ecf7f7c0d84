/- Made from wip. -/
import Derived.Test.YtokbaaeimejjlaaGreatDoorBkYMod0x

set_option maxRecDepth 100000
set_option maxHeartbeats 20000000
set_option linter.unusedVariables false
namespace Go.BkYM
open Go.Sp Go.BkY
noncomputable section
def X7 (pu:Af) (n n0 c0:Nat) (q0:LV):OV:=
 (bb (Au Ah q0) (bb (an (Nat.ble (0 + n0 * 1) (len q0)) (Au Ah (Aq (n0 * 1) (Am 0 q0)))) (some (Sl.v 1 (Sl.mk n0 0 (Aq (n0 * 1) (Am 0 q0))))) none) none)
def OG (pu:Af) (n:Nat) (ih0:Sl→Nat→Nat→Sl→Int→Int→LV→OV) (s0:Sl) (n0 c0:Nat) (s1:Sl) (z0 z1:Int) (q0:LV):OV:=
 (bb (Au Ah q0) (bb (AY z1 z0) (oo (EA z1) none fun k1=>(bb (an (Nat.blt k1 (Sl.n s1)) true) (oo (AL (Sl.cs s1) (k1 * 1)) none fun v0=>(oo (Bi .i64 v0) none fun x0=>(oo (EA x0) none fun k2=>(bb (an (Nat.blt k2 (Sl.n s0)) true) (oo (AL (Sl.cs s0) (k2 * 1)) none fun v1=>(oo (Bi .i64 v1) none fun x1=>(bb (an (Nat.blt k1 n0) true) (bb (an (Nat.ble ((0 + k1 * 1) + 1) (len q0)) true) (bb (Au Ah (BM ([.int .i64 x1]:LV) (0 + k1 * 1) q0)) (ih0 s0 n0 c0 s1 z0 (Aj .i64 (Int.add (Int.ofNat k1) (1:Int))) (BM ([.int .i64 x1]:LV) (0 + k1 * 1) q0)) none) none) none))) none)))) none)) (X7 pu n n0 c0 q0)) none)
def MF (pu:Af) (n w:Nat):Sl→Nat→Nat→Sl→Int→Int→LV→OV:=
 Nat.rec (motive:=fun _=>Sl→Nat→Nat→Sl→Int→Int→LV→OV) (fun _ _ _ _ _ _ _=>none) (fun _ ih0=>OG pu n ih0) w
def AfB (pu:Af) (n:Nat) (p0:Db) (s0:Sl) (x0:Int):OV:=
 (bb (an (Nat.ble (Sl.n s0) (Sl.n s0)) (an (Nat.ble ((Sl.n s0) * 8) 1099511627776) (an (Nat.ble (Sl.n s0) 1099511627776) true))) (bb (Au Ah (AF ([(.int .i64 (0:Int))]:LV) (Sl.n s0))) (oo (AL (Db.cs p0) ((Db.off p0) + 4)) none fun v0=>(oo (Bj 1 v0) none fun s1=>(oo (EA x0) none fun k1=>(bb (an (Nat.blt k1 (Sl.n s1)) true) (oo (AL (Sl.cs s1) (k1 * 1)) none fun v1=>(oo (Bj 1 v1) none fun s2=>(MF pu n n s0 (Sl.n s0) (2 * (Sl.n s0) + bb true 1 0) s2 (Int.ofNat (Sl.n s2)) (0:Int) (AF ([(.int .i64 (0:Int))]:LV) (Sl.n s0))))) none)))) none) none)
def m45 (pu:Af) (n:Nat) (args:LV):OV:=
 (ll args none fun a0 args=>(ll args none fun a1 args=>(ll args none fun a2 args=>(ll args (oo (Pv a0) none fun p0=>(oo (Bj 1 a1) none fun s0=>(oo (Bi .i64 a2) none fun x0=>(AfB pu n p0 s0 x0)))) fun _ _=>none))))
theorem AfD (pu:Af) (n n0 c0:Nat) (q0:LV) {v:Value} (hm:X7 pu n n0 c0 q0 = some v):BN tt (Bb tabs isP pu (inl pu)) 1 bP (fr 35 [(7,sc 1 0 1 n0 c0)]) (hT 2 [oC q0]) (Fin tt 1 [.tmp 6] v):=by
 unfold X7 at hm
 refine .then (.rK ?_)
 replace hm:=Ae hm;obtain ⟨h0,hm⟩:=hm
 refine .ghs (fr 35 [(6,sc 1 0 1 n0 c0)]) (hT 2 [oC q0]) (.k [1] [false] [.tmp 6 false] [6] ⟨BI h0,trivial⟩) ?_
 replace hm:=Ae hm;obtain ⟨h1,hm⟩:=hm
 refine .ghs (Fr.puts (fr 35 [(6,sc 1 0 1 n0 c0)]) [(6,(Sl.v 1 (Sl.mk n0 0 (Aq (n0 * 1) (Am 0 q0)))))]) (hT 2 [.dead]) (.freezeC 1 6 1 (an (Nat.ble (0 + n0 * 1) (len q0)) (Au Ah (Aq (n0 * 1) (Am 0 q0)))) (F1:=(Fr.puts (fr 35 [(6,sc 1 0 1 n0 c0)]) [(6,(Sl.v 1 (Sl.mk n0 0 (Aq (n0 * 1) (Am 0 q0)))))])) (H1:=(hT 2 [.dead])) (by kernel_rfl) (by kernel_rfl) h1 (E9.id _ _)) ?_
 refine .ret ?_
 exact Ay (Sl.v 1 (Sl.mk n0 0 (Aq (n0 * 1) (Am 0 q0)))) hm
theorem r45 {call:A8} (pu:Af) (n:Nat) (hcall:call = Bb tabs isP pu (inl pu)) {args:LV} {v:Value} (hm:m45 pu n args = some v) (_:∀ x ∈ args,closed2 x = true):args.length≤35∧BN tt call 1 R4 (Fr.made 35 args) (Ao tabs) (Fin tt 1 [.tmp 6] v):=by
 subst hcall
 unfold m45 at hm
 replace hm:=Ad hm;obtain ⟨a0,args_0,rfl,hm⟩:=hm
 replace hm:=Ad hm;obtain ⟨a1,args_1,rfl,hm⟩:=hm
 replace hm:=Ad hm;obtain ⟨a2,args_2,rfl,hm⟩:=hm
 replace hm:=AC hm;obtain ⟨rfl,hm⟩:=hm
 replace hm:=Ab hm;obtain ⟨p0,h0,hm⟩:=hm
 obtain rfl:=F7 h0
 replace hm:=Al hm;obtain ⟨s0,rfl,hm⟩:=hm
 replace hm:=Ai hm;obtain ⟨x0,rfl,hm⟩:=hm
 unfold AfB at hm
 refine ⟨by simp,?_⟩
 refine .same (F':=(fr 35 [(0,(Cv (Db.off p0) (Db.cs p0))),(1,Sl.v 1 s0),(2,zI x0)])) (H':=Ap) (by kernel_rfl) (by kernel_rfl) ?_
 refine .then (.rK (.ghs (fr 35 [(0,(Cv (Db.off p0) (Db.cs p0))),(1,Sl.v 1 s0),(2,zI x0)]) Ap (.k0 [false] [] [0,1,2]) ?_))
 refine .then ?_
 replace hm:=Ae hm;obtain ⟨h1,hm⟩:=hm
 refine .reg (eC 2 (bb (an (Nat.ble (Sl.n s0) (Sl.n s0)) (an (Nat.ble ((Sl.n s0) * 8) 1099511627776) (an (Nat.ble (Sl.n s0) 1099511627776) true))) (some ((sc 1 0 1 (Sl.n s0) (2 * (Sl.n s0) + bb true 1 0)),(hT 2 [(oC (AF ([(zI (0:Int))]:LV) (Sl.n s0)))]))) none) (kH h1) (eE)) ?_
 replace hm:=Ae hm;obtain ⟨h2,hm⟩:=hm
 refine .ghs (fr 35 [(0,(Cv (Db.off p0) (Db.cs p0))),(1,Sl.v 1 s0),(2,zI x0),(7,(sc 1 0 1 (Sl.n s0) (2 * (Sl.n s0) + bb true 1 0)))]) (hT 2 [(oC (AF ([(zI (0:Int))]:LV) (Sl.n s0)))]) (.k [1] [false] [.tmp 7 false] [0,1,2,7] ⟨BI h2,trivial⟩) ?_
 refine .join (v:=v) (fun y:Nat×Nat×LV=>((fr 35 [(7,(sc 1 0 1 y.1 y.2.1))]),(hT 2 [(oC y.2.2)]))) (fun y=>X7 pu n y.1 y.2.1 y.2.2) ?_ ?_
 ·rintro ⟨n0, c0, q0⟩ hm
  exact AfD pu n n0 c0 q0 hm
 ·refine .then ?_
  replace hm:=oS hm;obtain ⟨s1,h3,hm⟩:=hm
  replace hm:=Ab hm;obtain ⟨k1,h4,hm⟩:=hm
  obtain rfl:=AR h4
  replace hm:=Ae hm;obtain ⟨h5,hm⟩:=hm
  replace hm:=oS hm;obtain ⟨s2,h6,hm⟩:=hm
  refine .reg (eC 3 (keep (hT 2 [(oC (AF ([(zI (0:Int))]:LV) (Sl.n s0)))]) (AL (Db.cs p0) ((Db.off p0) + 4))) (AZ h3) (eC 1 (keep (hT 2 [(oC (AF ([(zI (0:Int))]:LV) (Sl.n s0)))]) (bb (an (Nat.blt k1 (Sl.n s1)) true) (some (Cv (k1 * 1) (Sl.cs s1))) none)) (AX h5) (eD (keep (hT 2 [(oC (AF ([(zI (0:Int))]:LV) (Sl.n s0)))]) (AL (Sl.cs s1) (k1 * 1))) (AZ h6) (eE)))) ?_
  refine .ghs (fr 35 [(1,Sl.v 1 s0),(7,(sc 1 0 1 (Sl.n s0) (2 * (Sl.n s0) + bb true 1 0))),(19,Sl.v 1 s2),(20,(zI (Int.ofNat (Sl.n s2)))),(21,(zI (0:Int)))]) (hT 2 [(oC (AF ([(zI (0:Int))]:LV) (Sl.n s0)))]) (.k [1] [false] [.tmp 7 false] [1,7,19,20,21] ⟨BI h2,trivial⟩) ?_
  refine .block (.loopM (v:=v) (fun y:Sl×Nat×Nat×Sl×Int×Int×LV=>((fr 35 [(1,(Sl.v 1 y.1)),(7,(sc 1 0 1 y.2.1 y.2.2.1)),(19,(Sl.v 1 y.2.2.2.1)),(20,(zI y.2.2.2.2.1)),(21,(zI y.2.2.2.2.2.1))]),(hT 2 [(oC y.2.2.2.2.2.2)]))) (fun w y=>MF pu n w y.1 y.2.1 y.2.2.1 y.2.2.2.1 y.2.2.2.2.1 y.2.2.2.2.2.1 y.2.2.2.2.2.2) n ⟨(s0,(Sl.n s0),(2 * (Sl.n s0) + bb true 1 0),s2,(Int.ofNat (Sl.n s2)),(0:Int),(AF ([(zI (0:Int))]:LV) (Sl.n s0))),hm,(.k [1] [false] [.tmp 7 false] [1,7,19,20,21] ⟨BI h2,trivial⟩)⟩ (fun _=>rfl) ?_)
  rintro w0 ⟨s3,n1,c1,s4,z0,z1,q1⟩ hm
  replace hm:OG pu n (MF pu n w0) s3 n1 c1 s4 z0 z1 q1 = some v:=hm
  unfold OG at hm
  refine .then (.rK ?_)
  replace hm:=Ae hm;obtain ⟨h7,hm⟩:=hm
  refine .ghs (fr 35 [(1,Sl.v 1 s3),(7,sc 1 0 1 n1 c1),(19,Sl.v 1 s4),(20,zI z0),(21,zI z1),(22,(zB (AY z1 z0)))]) (hT 2 [oC q1]) (.k [1] [false] [.tmp 7 false] [1,7,19,20,21,22] ⟨BI h7,trivial⟩) ?_
  refine .then ?_
  replace hm:=Ag hm;rcases hm with ⟨h8,hm⟩ | ⟨h8,hm⟩
  ·refine Bp (AY z1 z0) h8 ?_
   refine .skip (.ghs (fr 35 [(1,Sl.v 1 s3),(7,sc 1 0 1 n1 c1),(19,Sl.v 1 s4),(20,zI z0),(21,zI z1)]) (hT 2 [oC q1]) (.k [1] [false] [.tmp 7 false] [1,7,19,20,21] ⟨BI h7,trivial⟩) ?_)
   refine .then (.block (.then ?_))
   replace hm:=Ab hm;obtain ⟨k2,h9,hm⟩:=hm
   obtain rfl:=AR h9
   replace hm:=Ae hm;obtain ⟨h10,hm⟩:=hm
   replace hm:=oI hm;obtain ⟨x1,h11,hm⟩:=hm
   refine .reg (eC 1 (keep (hT 2 [oC q1]) (bb (an (Nat.blt k2 (Sl.n s4)) true) (some (Cv (k2 * 1) (Sl.cs s4))) none)) (AX h10) (eD (keep (hT 2 [oC q1]) (AL (Sl.cs s4) (k2 * 1))) (AZ h11) (eE))) ?_
   refine .ghs (fr 35 [(1,Sl.v 1 s3),(7,sc 1 0 1 n1 c1),(8,(zI (Int.ofNat k2))),(9,zI x1),(19,Sl.v 1 s4),(20,zI z0),(21,(zI (Int.ofNat k2)))]) (hT 2 [oC q1]) (.k [1] [false] [.tmp 7 false] [1,7,8,9,19,20,21] ⟨BI h7,trivial⟩) ?_
   replace hm:=Ab hm;obtain ⟨k3,h12,hm⟩:=hm
   obtain rfl:=AR h12
   replace hm:=Ae hm;obtain ⟨h13,hm⟩:=hm
   replace hm:=oI hm;obtain ⟨x2,h14,hm⟩:=hm
   replace hm:=Ae hm;obtain ⟨h15,hm⟩:=hm
   replace hm:=Ae hm;obtain ⟨h16,hm⟩:=hm
   refine .reg (eC 4 (keep (hT 2 [oC q1]) (bb (an (Nat.blt k3 (Sl.n s3)) true) (some (Cv (k3 * 1) (Sl.cs s3))) none)) (AX h13) (eD (keep (hT 2 [oC q1]) (AL (Sl.cs s3) (k3 * 1))) (AZ h14) (eD (keep (hT 2 [oC q1]) (bb (an (Nat.blt k2 n1) true) (some (.pointer (some ⟨1,(0 + k2 * 1),none⟩))) none)) (AX h15) (eD (done (bb (an (Nat.ble ((0 + k2 * 1) + 1) (len q1)) true) (some (hT 2 [(oC (BM ([zI x2]:LV) (0 + k2 * 1) q1))])) none) undef) (Js h16) (eE))))) ?_
   replace hm:=Ae hm;obtain ⟨h17,hm⟩:=hm
   refine .ghs (fr 35 [(1,Sl.v 1 s3),(7,sc 1 0 1 n1 c1),(19,Sl.v 1 s4),(20,zI z0),(21,(zI (Int.ofNat k2)))]) (hT 2 [(oC (BM ([zI x2]:LV) (0 + k2 * 1) q1))]) (.k [1] [false] [.tmp 7 false] [1,7,19,20,21] ⟨BI h17,trivial⟩) ?_
   refine .rK ?_
   exact ⟨(s3,n1,c1,s4,z0,(Aj .i64 (Int.add (Int.ofNat k2) (1:Int))),(BM ([zI x2]:LV) (0 + k2 * 1) q1)),hm,(.k [1] [false] [.tmp 7 false] [1,7,19,20,21] ⟨BI h17,trivial⟩)⟩
  ·refine Bq (AY z1 z0) h8 ?_
   refine .exit ?_
   exact ⟨(n1,c1,q1),hm,(.k [1] [false] [.tmp 7 false] [7] ⟨BI h7,trivial⟩)⟩
def X8 (pu:Af) (n:Nat) (z0:Int):OV:=
 (some (.int .i64 z0))
def X9 (pu:Af) (n:Nat) (ih0:Sl→Int→Int→Int→Int→Int→Sl→OV) (s0:Sl) (z0 z1 z2 z3 z4:Int) (s1:Sl):OV:=
 (ih0 s0 z0 (Aj .i64 (Int.add z1 (1:Int))) z2 z3 z4 s1)
def Ug (pu:Af) (n:Nat) (ih0:Sl→Int→Int→Int→Int→Int→Sl→OV) (s0:Sl) (z0 z1:Int) (b0:Bool) (z2 z3 z4:Int) (s1:Sl):OV:=
 (bb b0 (oo (EA z1) none fun k1=>(bb (an (Nat.blt k1 (Sl.n s0)) true) (oo (AL (Sl.cs s0) (k1 * 1)) none fun v0=>(oo (Bi .i64 v0) none fun x0=>(oo (pu 62 [.int .i64 x0,(.int .i64 (0:Int)),(.int .i64 (Aj .i64 (Int.sub z4 (1:Int))))]) none fun v1=>(oo (Bf v1) none fun b1=>(bb (nt b1) (X9 pu n ih0 s0 (1:Int) (Int.ofNat k1) z2 z3 z4 s1) (X9 pu n ih0 s0 z0 (Int.ofNat k1) z2 z3 z4 s1)))))) none)) (X8 pu n z0))
def Uh (pu:Af) (n:Nat) (ih0:Sl→Int→Int→Int→Int→Int→Sl→OV) (s0:Sl) (z0 z1 z2 z3 z4:Int) (s1:Sl):OV:=
 (bb (AY z1 (Int.ofNat (Sl.n s0))) (Ug pu n ih0 s0 z0 z1 (Bd z0 (0:Int)) z2 z3 z4 s1) (Ug pu n ih0 s0 z0 z1 false z2 z3 z4 s1))
def I8 (pu:Af) (n w:Nat):Sl→Int→Int→Int→Int→Int→Sl→OV:=
 Nat.rec (motive:=fun _=>Sl→Int→Int→Int→Int→Int→Sl→OV) (fun _ _ _ _ _ _ _=>none) (fun _ ih0=>Uh pu n ih0) w
def Ui (pu:Af) (n:Nat) (s0:Sl) (z0 z1 z2 z3:Int) (s1:Sl):OV:=
 (I8 pu n n s0 z0 (0:Int) z1 z2 z3 s1)
def OH (pu:Af) (n:Nat) (s0:Sl) (z0:Int) (b0:Bool) (z1 z2 z3:Int) (s1:Sl):OV:=
 (bb b0 (Ui pu n s0 (5:Int) z1 z2 z3 s1) (Ui pu n s0 z0 z1 z2 z3 s1))
def AfE (pu:Af) (n:Nat) (x0 x1 x2:Int) (s0 s1:Sl):OV:=
 (oo (pu 36 [(.agg ⟨[.int .i64 x0,.int .i64 x1,.int .i64 x2,Sl.v 1 s0]⟩)]) none fun v0=>(oo (Bi .i64 v0) none fun x3=>(bb (Bd x3 (0:Int)) (OH pu n s1 x3 (nt (Bd (Int.ofNat (Sl.n s1)) (Aj .i64 (Int.mul x0 x1)))) x0 x1 x2 s0) (OH pu n s1 x3 false x0 x1 x2 s0))))
def m46 (pu:Af) (n:Nat) (args:LV):OV:=
 (ll args none fun a0 args=>(ll args none fun a1 args=>(ll args (oo (Bt a0) none fun l0=>(ll l0 none fun v0 l0=>(ll l0 none fun v1 l0=>(ll l0 none fun v2 l0=>(ll l0 none fun v3 l0=>(ll l0 (oo (Bi .i64 v0) none fun x0=>(oo (Bi .i64 v1) none fun x1=>(oo (Bi .i64 v2) none fun x2=>(oo (Bj 1 v3) none fun s0=>(oo (Bj 1 a1) none fun s1=>(AfE pu n x0 x1 x2 s0 s1)))))) fun _ _=>none)))))) fun _ _=>none)))
theorem AfG (pu:Af) (n:Nat) (z0:Int) {v:Value} (hm:X8 pu n z0 = some v):BN tt (Bb tabs isP pu (inl pu)) 1 bQ (fr 41 [(5,zI z0)]) Ap (Fin tt 1 [.tmp 4] v):=by
 unfold X8 at hm
 refine .then (.rK (.ghs (fr 41 [(4,zI z0)]) Ap (.k0 [false] [] [4]) ?_))
 refine .ret ?_
 exact Ay (zI z0) hm
theorem AfH (pu:Af) (n:Nat) (s0:Sl) (z0 z1 z2 z3:Int) (s1:Sl) {v:Value} (hm:Ui pu n s0 z0 z1 z2 z3 s1 = some v):BN tt (Bb tabs isP pu (inl pu)) 1 bR (fr 41 [(1,Sl.v 1 s0),(2,pt 1 0),(5,zI z0)]) (hT 2 [(oC [zI z1,zI z2,zI z3,Sl.v 1 s1])]) (Fin tt 1 [.tmp 4] v):=by
 unfold Ui at hm
 refine .join (v:=v) (fun y:Int=>((fr 41 [(5,zI y)]),Ap)) (fun y=>X8 pu n y) ?_ ?_
 ·rintro z4 hm
  exact AfG pu n z4 hm
 ·refine .then (.rK (.ghs (fr 41 [(1, Sl.v 1 s0), (2, pt 1 0), (5, zI z0), (6, (zI (0 : Int)))]) (hT 2 [(oC [zI z1, zI z2, zI z3, Sl.v 1 s1])]) (.k0 [false] [.tmp 2 false] [1, 2, 5, 6]) ?_))
  refine .block (.loopM (v:=v) (fun y:Sl×Int×Int×Int×Int×Int×Sl=>((fr 41 [(1,(Sl.v 1 y.1)),(2,pt 1 0),(5,(zI y.2.1)),(6,(zI y.2.2.1))]),(hT 2 [(oC [(zI y.2.2.2.1),(zI y.2.2.2.2.1),(zI y.2.2.2.2.2.1),(Sl.v 1 y.2.2.2.2.2.2)])]))) (fun w y=>I8 pu n w y.1 y.2.1 y.2.2.1 y.2.2.2.1 y.2.2.2.2.1 y.2.2.2.2.2.1 y.2.2.2.2.2.2) n ⟨(s0,z0,(0:Int),z1,z2,z3,s1),hm,(.k0 [false] [.tmp 2 false] [1,2,5,6])⟩ (fun _=>rfl) ?_)
  rintro w0 ⟨s2,z5,z6,z7,z8,z9,s3⟩ hm
  replace hm:Uh pu n (I8 pu n w0) s2 z5 z6 z7 z8 z9 s3 = some v:=hm
  unfold Uh at hm
  refine .then (.join (v:=v) (fun y:Sl×Int×Int×Bool×Int×Int×Int×Sl=>((fr 41 [(1,(Sl.v 1 y.1)),(2,pt 1 0),(5,(zI y.2.1)),(6,(zI y.2.2.1)),(28,(zB y.2.2.2.1))]),(hT 2 [(oC [(zI y.2.2.2.2.1),(zI y.2.2.2.2.2.1),(zI y.2.2.2.2.2.2.1),(Sl.v 1 y.2.2.2.2.2.2.2)])]))) (fun y=>Ug pu n (I8 pu n w0) y.1 y.2.1 y.2.2.1 y.2.2.2.1 y.2.2.2.2.1 y.2.2.2.2.2.1 y.2.2.2.2.2.2.1 y.2.2.2.2.2.2.2) ?_ ?_)
  ·rintro ⟨s4, z10, z11, b0, z12, z13, z14, s5⟩ hm
   unfold Ug at hm
   replace hm:=Ag hm;rcases hm with ⟨h0,hm⟩ | ⟨h0,hm⟩
   ·refine .ifT b0 (by kernel_rfl) h0 ?_
    refine .skip (.ghs (fr 41 [(1,Sl.v 1 s4),(2,pt 1 0),(5,zI z10),(6,zI z11)]) (hT 2 [(oC [zI z12,zI z13,zI z14,Sl.v 1 s5])]) (.k0 [false] [.tmp 2 false] [1,2,5,6]) ?_)
    refine .join (v:=v) (fun y:Sl×Int×Int×Int×Int×Int×Sl=>((fr 41 [(1,(Sl.v 1 y.1)),(2,pt 1 0),(5,(zI y.2.1)),(6,(zI y.2.2.1))]),(hT 2 [(oC [(zI y.2.2.2.1),(zI y.2.2.2.2.1),(zI y.2.2.2.2.2.1),(Sl.v 1 y.2.2.2.2.2.2)])]))) (fun y=>X9 pu n (I8 pu n w0) y.1 y.2.1 y.2.2.1 y.2.2.2.1 y.2.2.2.2.1 y.2.2.2.2.2.1 y.2.2.2.2.2.2) ?_ ?_
    ·rintro ⟨s6, z15, z16, z17, z18, z19, s7⟩ hm
     unfold X9 at hm
     refine .rK ?_
     exact ⟨(s6,z15,(Aj .i64 (Int.add z16 (1:Int))),z17,z18,z19,s7),hm,(.k0 [false] [.tmp 2 false] [1,2,5,6])⟩
    ·refine .block (.then ?_)
     replace hm:=Ab hm;obtain ⟨k1,h1,hm⟩:=hm
     obtain rfl:=AR h1
     replace hm:=Ae hm;obtain ⟨h2,hm⟩:=hm
     replace hm:=oI hm;obtain ⟨x0,h3,hm⟩:=hm
     replace hm:=oB hm;obtain ⟨b1,h4,hm⟩:=hm
     refine .reg (eC 2 (keep (hT 2 [(oC [zI z12,zI z13,zI z14,Sl.v 1 s5])]) (bb (an (Nat.blt k1 (Sl.n s4)) true) (some (Cv (k1 * 1) (Sl.cs s4))) none)) (AX h2) (eD (keep (hT 2 [(oC [zI z12,zI z13,zI z14,Sl.v 1 s5])]) (AL (Sl.cs s4) (k1 * 1))) (AZ h3) (eC 3 ((oo (pu 62 [zI x0,(zI (0:Int)),(zI (Aj .i64 (Int.sub z14 (1:Int))))]) none fun v=>some (v,(hT 2 [(oC [zI z12,zI z13,zI z14,Sl.v 1 s5])])))) (AB h4) (eE)))) ?_
     refine .ghs (fr 41 [(1,Sl.v 1 s4),(2,pt 1 0),(5,zI z10),(6,(zI (Int.ofNat k1))),(39,(zB (nt b1)))]) (hT 2 [(oC [zI z12,zI z13,zI z14,Sl.v 1 s5])]) (.k0 [false] [.tmp 2 false] [1,2,5,6,39]) ?_
     replace hm:=Ag hm;rcases hm with ⟨h5,hm⟩ | ⟨h5,hm⟩
     ·refine Bp (nt b1) h5 ?_
      refine .rK ?_
      exact ⟨(s4,(1:Int),(Int.ofNat k1),z12,z13,z14,s5),hm,(.k0 [false] [.tmp 2 false] [1,2,5,6])⟩
     ·refine Bq (nt b1) h5 ?_
      refine .skip ?_
      exact ⟨(s4,z10,(Int.ofNat k1),z12,z13,z14,s5),hm,(.k0 [false] [.tmp 2 false] [1,2,5,6])⟩
   ·refine .ifF b0 (by kernel_rfl) h0 ?_
    refine .exit ?_
    exact ⟨z10,hm,(.k0 [false] [] [5])⟩
  ·replace hm := Ag hm; rcases hm with ⟨h6, hm⟩ | ⟨h6, hm⟩
   ·refine .reg (eC 3 (some ((zB (AY z6 (Int.ofNat (Sl.n s2)))), (hT 2 [(oC [zI z7, zI z8, zI z9, Sl.v 1 s3])]))) (show _ = some ((zB true), _) from (by rw [show (AY z6 (Int.ofNat (Sl.n s2))) = true from h6])) (eE)) ?_
    exact ⟨(s2,z5,z6,(Bd z5 (0:Int)),z7,z8,z9,s3),hm,(.k0 [false] [.tmp 2 false] [1,2,5,6,28])⟩
   ·refine .reg (eC 3 (some ((zB (AY z6 (Int.ofNat (Sl.n s2)))), (hT 2 [(oC [zI z7, zI z8, zI z9, Sl.v 1 s3])]))) (show _ = some ((zB false), _) from (by rw [show (AY z6 (Int.ofNat (Sl.n s2))) = false from h6])) (eE)) ?_
    exact ⟨(s2,z5,z6,false,z7,z8,z9,s3),hm,(.k0 [false] [.tmp 2 false] [1,2,5,6,28])⟩
theorem r46 {call:A8} (pu:Af) (n:Nat) (hcall:call = Bb tabs isP pu (inl pu)) {args:LV} {v:Value} (hm:m46 pu n args = some v) (_:∀ x ∈ args,closed2 x = true):args.length≤41∧BN tt call 1 R5 (Fr.made 41 args) (Ao tabs) (Fin tt 1 [.tmp 4] v):=by
 subst hcall
 unfold m46 at hm
 replace hm:=Ad hm;obtain ⟨a0,args_0,rfl,hm⟩:=hm
 replace hm:=Ad hm;obtain ⟨a1,args_1,rfl,hm⟩:=hm
 replace hm:=AC hm;obtain ⟨rfl,hm⟩:=hm
 replace hm:=BG hm;obtain ⟨l0,rfl,hm⟩:=hm
 replace hm:=Ad hm;obtain ⟨v0,l5917_0,rfl,hm⟩:=hm
 replace hm:=Ad hm;obtain ⟨v1,l5917_1,rfl,hm⟩:=hm
 replace hm:=Ad hm;obtain ⟨v2,l5917_2,rfl,hm⟩:=hm
 replace hm:=Ad hm;obtain ⟨v3,l5917_3,rfl,hm⟩:=hm
 replace hm:=AC hm;obtain ⟨rfl,hm⟩:=hm
 replace hm:=Ai hm;obtain ⟨x0,rfl,hm⟩:=hm
 replace hm:=Ai hm;obtain ⟨x1,rfl,hm⟩:=hm
 replace hm:=Ai hm;obtain ⟨x2,rfl,hm⟩:=hm
 replace hm:=Al hm;obtain ⟨s0,rfl,hm⟩:=hm
 replace hm:=Al hm;obtain ⟨s1,rfl,hm⟩:=hm
 unfold AfE at hm
 refine ⟨by simp,?_⟩
 refine .same (F':=(fr 41 [(0,(.agg ⟨[zI x0,zI x1,zI x2,Sl.v 1 s0]⟩)),(1,Sl.v 1 s1)])) (H':=Ap) (by kernel_rfl) (by kernel_rfl) ?_
 refine .then (.rK (.ghs (fr 41 [(1,Sl.v 1 s1),(2,pt 1 0)]) (hT 2 [(oC [zI x0,zI x1,zI x2,Sl.v 1 s0])]) (.k0 [false] [.tmp 2 false] [1,2]) ?_))
 refine .then ?_
 replace hm:=oI hm;obtain ⟨x3,h0,hm⟩:=hm
 refine .reg (eC 1 ((oo (pu 36 [(.agg ⟨[zI x0,zI x1,zI x2,Sl.v 1 s0]⟩)]) none fun v=>some (v,(hT 2 [(oC [zI x0,zI x1,zI x2,Sl.v 1 s0])])))) (AB h0) (eE)) ?_
 refine .ghs (fr 41 [(1,Sl.v 1 s1),(2,pt 1 0),(5,zI x3)]) (hT 2 [(oC [zI x0,zI x1,zI x2,Sl.v 1 s0])]) (.k0 [false] [.tmp 2 false] [1,2,5]) ?_
 refine .join (v:=v) (fun y:Sl×Int×Int×Int×Int×Sl=>((fr 41 [(1,(Sl.v 1 y.1)),(2,pt 1 0),(5,(zI y.2.1))]),(hT 2 [(oC [(zI y.2.2.1),(zI y.2.2.2.1),(zI y.2.2.2.2.1),(Sl.v 1 y.2.2.2.2.2)])]))) (fun y=>Ui pu n y.1 y.2.1 y.2.2.1 y.2.2.2.1 y.2.2.2.2.1 y.2.2.2.2.2) ?_ ?_
 ·rintro ⟨s2, z0, z1, z2, z3, s3⟩ hm
  exact AfH pu n s2 z0 z1 z2 z3 s3 hm
 ·refine .join (v := v) (fun y : Sl × Int × Bool × Int × Int × Int × Sl => ((fr 41 [(1, (Sl.v 1 y.1)), (2, pt 1 0), (5, (zI y.2.1)), (20, (zB y.2.2.1))]), (hT 2 [(oC [(zI y.2.2.2.1), (zI y.2.2.2.2.1), (zI y.2.2.2.2.2.1), (Sl.v 1 y.2.2.2.2.2.2)])]))) (fun y => OH pu n y.1 y.2.1 y.2.2.1 y.2.2.2.1 y.2.2.2.2.1 y.2.2.2.2.2.1 y.2.2.2.2.2.2) ?_ ?_
  ·rintro ⟨s4, z4, b0, z5, z6, z7, s5⟩ hm
   unfold OH at hm
   replace hm:=Ag hm;rcases hm with ⟨h1,hm⟩ | ⟨h1,hm⟩
   ·refine .ifT b0 (by kernel_rfl) h1 ?_
    refine .rK ?_
    exact ⟨(s4,(5:Int),z5,z6,z7,s5),hm,(.k0 [false] [.tmp 2 false] [1,2,5])⟩
   ·refine .ifF b0 (by kernel_rfl) h1 ?_
    refine .skip ?_
    exact ⟨(s4,z4,z5,z6,z7,s5),hm,(.k0 [false] [.tmp 2 false] [1,2,5])⟩
  ·replace hm := Ag hm; rcases hm with ⟨h2, hm⟩ | ⟨h2, hm⟩
   ·refine .reg (eC 1 (some ((zB (Bd x3 (0 : Int))), (hT 2 [(oC [zI x0, zI x1, zI x2, Sl.v 1 s0])]))) (show _ = some ((zB true), _) from (by rw [show (Bd x3 (0 : Int)) = true from h2])) (eE)) ?_
    exact ⟨(s1,x3,(nt (Bd (Int.ofNat (Sl.n s1)) (Aj .i64 (Int.mul x0 x1)))),x0,x1,x2,s0),hm,(.k0 [false] [.tmp 2 false] [1,2,5,20])⟩
   ·refine .reg (eC 1 (some ((zB (Bd x3 (0 : Int))), (hT 2 [(oC [zI x0, zI x1, zI x2, Sl.v 1 s0])]))) (show _ = some ((zB false), _) from (by rw [show (Bd x3 (0 : Int)) = false from h2])) (eE)) ?_
    exact ⟨(s1,x3,false,x0,x1,x2,s0),hm,(.k0 [false] [.tmp 2 false] [1,2,5,20])⟩
def Ya (pu:Af) (n:Nat):OV:=
 (some (.bool false))
def eH (pu:Af) (n:Nat) (ih0:Sl→Int→Int→OV) (s0:Sl) (z0 z1:Int):OV:=
 (bb (AY z1 (Int.ofNat (Sl.n s0))) (oo (EA z1) none fun k1=>(bb (an (Nat.blt k1 (Sl.n s0)) true) (oo (AL (Sl.cs s0) (k1 * 1)) none fun v0=>(oo (Bi .i64 v0) none fun x0=>(bb (Bd x0 z0) (some (.bool true)) (ih0 s0 z0 (Aj .i64 (Int.add (Int.ofNat k1) (1:Int))))))) none)) (Ya pu n))
def eO (pu:Af) (n w:Nat):Sl→Int→Int→OV:=
 Nat.rec (motive:=fun _=>Sl→Int→Int→OV) (fun _ _ _=>none) (fun _ ih0=>eH pu n ih0) w
def AfI (pu:Af) (n:Nat) (s0:Sl) (x0:Int):OV:=
 (eO pu n n s0 x0 (0:Int))
def m47 (pu:Af) (n:Nat) (args:LV):OV:=
 (ll args none fun a0 args=>(ll args none fun a1 args=>(ll args (oo (Bj 1 a0) none fun s0=>(oo (Bi .i64 a1) none fun x0=>(AfI pu n s0 x0))) fun _ _=>none)))
theorem AfK (pu:Af) (n:Nat) {v:Value} (hm:Ya pu n = some v):BN tt (Bb tabs isP pu (inl pu)) 1 bS (fr 18 []) Ap (Fin tt 1 [.tmp 4] v):=by
 unfold Ya at hm
 refine .then (.rK (.ghs (fr 18 [(4,zB false)]) Ap (.k0 [false] [] [4]) ?_))
 refine .ret ?_
 exact Ay (zB false) hm
theorem r47 {call:A8} (pu:Af) (n:Nat) (hcall:call = Bb tabs isP pu (inl pu)) {args:LV} {v:Value} (hm:m47 pu n args = some v) (_:∀ x ∈ args,closed2 x = true):args.length≤18∧BN tt call 1 R6 (Fr.made 18 args) (Ao tabs) (Fin tt 1 [.tmp 4] v):=by
 subst hcall
 unfold m47 at hm
 replace hm:=Ad hm;obtain ⟨a0,args_0,rfl,hm⟩:=hm
 replace hm:=Ad hm;obtain ⟨a1,args_1,rfl,hm⟩:=hm
 replace hm:=AC hm;obtain ⟨rfl,hm⟩:=hm
 replace hm:=Al hm;obtain ⟨s0,rfl,hm⟩:=hm
 replace hm:=Ai hm;obtain ⟨x0,rfl,hm⟩:=hm
 unfold AfI at hm
 refine ⟨by simp,?_⟩
 refine .same (F':=(fr 18 [(0,Sl.v 1 s0),(1,zI x0)])) (H':=Ap) (by kernel_rfl) (by kernel_rfl) ?_
 refine .then (.rK (.ghs (fr 18 [(0,Sl.v 1 s0),(1,zI x0)]) Ap (.k0 [false] [] [0,1]) ?_))
 refine .join (v:=v) (fun y:Unit=>((fr 18 []),Ap)) (fun y=>Ya pu n) ?_ ?_
 ·rintro _ hm
  exact AfK pu n hm
 ·refine .then (.rK (.ghs (fr 18 [(0, Sl.v 1 s0), (1, zI x0), (5, (zI (0 : Int)))]) Ap (.k0 [false] [] [0, 1, 5]) ?_))
  refine .block (.loopM (v:=v) (fun y:Sl×Int×Int=>((fr 18 [(0,(Sl.v 1 y.1)),(1,(zI y.2.1)),(5,(zI y.2.2))]),Ap)) (fun w y=>eO pu n w y.1 y.2.1 y.2.2) n ⟨(s0,x0,(0:Int)),hm,(.k0 [false] [] [0,1,5])⟩ (fun _=>rfl) ?_)
  rintro w0 ⟨s1,z0,z1⟩ hm
  replace hm:eH pu n (eO pu n w0) s1 z0 z1 = some v:=hm
  unfold eH at hm
  refine .then (.then (.rK (.ghs (fr 18 [(0,Sl.v 1 s1),(1,zI z0),(5,zI z1),(9,(zB (AY z1 (Int.ofNat (Sl.n s1)))))]) Ap (.k0 [false] [] [0,1,5,9]) ?_)))
  replace hm:=Ag hm;rcases hm with ⟨h0,hm⟩ | ⟨h0,hm⟩
  ·refine Bp (AY z1 (Int.ofNat (Sl.n s1))) h0 ?_
   refine .skip (.ghs (fr 18 [(0,Sl.v 1 s1),(1,zI z0),(5,zI z1)]) Ap (.k0 [false] [] [0,1,5]) ?_)
   refine .then (.block (.then ?_))
   replace hm:=Ab hm;obtain ⟨k1,h1,hm⟩:=hm
   obtain rfl:=AR h1
   replace hm:=Ae hm;obtain ⟨h2,hm⟩:=hm
   replace hm:=oI hm;obtain ⟨x1,h3,hm⟩:=hm
   refine .reg (eC 2 (keep Ap (bb (an (Nat.blt k1 (Sl.n s1)) true) (some (Cv (k1 * 1) (Sl.cs s1))) none)) (AX h2) (eD (keep Ap (AL (Sl.cs s1) (k1 * 1))) (AZ h3) (eE))) ?_
   refine .ghs (fr 18 [(0,Sl.v 1 s1),(1,zI z0),(5,(zI (Int.ofNat k1))),(17,(zB (Bd x1 z0)))]) Ap (.k0 [false] [] [0,1,5,17]) ?_
   replace hm:=Ag hm;rcases hm with ⟨h4,hm⟩ | ⟨h4,hm⟩
   ·refine Bp (Bd x1 z0) h4 ?_
    refine .then (.rK (.ghs (fr 18 [(4,zB true)]) Ap (.k0 [false] [] [4]) ?_))
    refine .ret ?_
    exact Ay (zB true) hm
   ·refine Bq (Bd x1 z0) h4 ?_
    refine .skip (.ghs (fr 18 [(0,Sl.v 1 s1),(1,zI z0),(5,(zI (Int.ofNat k1)))]) Ap (.k0 [false] [] [0,1,5]) ?_)
    refine .rK ?_
    exact ⟨(s1,z0,(Aj .i64 (Int.add (Int.ofNat k1) (1:Int)))),hm,(.k0 [false] [] [0,1,5])⟩
  ·refine Bq (AY z1 (Int.ofNat (Sl.n s1))) h0 ?_
   refine .exit ?_
   exact ⟨(),hm,(.k0 [false] [] [])⟩
def Yb (pu:Af) (n:Nat):OV:=
 (some (.bool true))
def Uj (pu:Af) (n:Nat) (ih0:Sl→Sl→Int→Int→OV) (s0 s1:Sl) (z0 z1:Int):OV:=
 (bb (AY z1 z0) (oo (EA z1) none fun k1=>(bb (an (Nat.blt k1 (Sl.n s0)) true) (oo (AL (Sl.cs s0) (k1 * 1)) none fun v0=>(oo (Bi .i64 v0) none fun x0=>(bb (an (Nat.blt k1 (Sl.n s1)) true) (oo (AL (Sl.cs s1) (k1 * 1)) none fun v1=>(oo (Bi .i64 v1) none fun x1=>(bb (nt (Bd x0 x1)) (some (.bool false)) (ih0 s0 s1 z0 (Aj .i64 (Int.add (Int.ofNat k1) (1:Int))))))) none))) none)) (Yb pu n))
def Qs (pu:Af) (n w:Nat):Sl→Sl→Int→Int→OV:=
 Nat.rec (motive:=fun _=>Sl→Sl→Int→Int→OV) (fun _ _ _ _=>none) (fun _ ih0=>Uj pu n ih0) w
def AfL (pu:Af) (n:Nat) (s0 s1:Sl):OV:=
 (bb (nt (Bd (Int.ofNat (Sl.n s0)) (Int.ofNat (Sl.n s1)))) (some (.bool false)) (Qs pu n n s0 s1 (Int.ofNat (Sl.n s0)) (0:Int)))
def m49 (pu:Af) (n:Nat) (args:LV):OV:=
 (ll args none fun a0 args=>(ll args none fun a1 args=>(ll args (oo (Bj 1 a0) none fun s0=>(oo (Bj 1 a1) none fun s1=>(AfL pu n s0 s1))) fun _ _=>none)))
theorem AfN (pu:Af) (n:Nat) {v:Value} (hm:Yb pu n = some v):BN tt (Bb tabs isP pu (inl pu)) 1 bT (fr 26 []) Ap (Fin tt 1 [.tmp 4] v):=by
 unfold Yb at hm
 refine .then (.rK (.ghs (fr 26 [(4,zB true)]) Ap (.k0 [false] [] [4]) ?_))
 refine .ret ?_
 exact Ay (zB true) hm
theorem r49 {call:A8} (pu:Af) (n:Nat) (hcall:call = Bb tabs isP pu (inl pu)) {args:LV} {v:Value} (hm:m49 pu n args = some v) (_:∀ x ∈ args,closed2 x = true):args.length≤26∧BN tt call 1 R7 (Fr.made 26 args) (Ao tabs) (Fin tt 1 [.tmp 4] v):=by
 subst hcall
 unfold m49 at hm
 replace hm:=Ad hm;obtain ⟨a0,args_0,rfl,hm⟩:=hm
 replace hm:=Ad hm;obtain ⟨a1,args_1,rfl,hm⟩:=hm
 replace hm:=AC hm;obtain ⟨rfl,hm⟩:=hm
 replace hm:=Al hm;obtain ⟨s0,rfl,hm⟩:=hm
 replace hm:=Al hm;obtain ⟨s1,rfl,hm⟩:=hm
 unfold AfL at hm
 refine ⟨by simp,?_⟩
 refine .same (F':=(fr 26 [(0,Sl.v 1 s0),(1,Sl.v 1 s1)])) (H':=Ap) (by kernel_rfl) (by kernel_rfl) ?_
 refine .then (.rK (.ghs (fr 26 [(0,Sl.v 1 s0),(1,Sl.v 1 s1)]) Ap (.k0 [false] [] [0,1]) ?_))
 refine .then (.then (.rK (.ghs (fr 26 [(0,Sl.v 1 s0),(1,Sl.v 1 s1),(10,(zB (nt (Bd (Int.ofNat (Sl.n s0)) (Int.ofNat (Sl.n s1))))))]) Ap (.k0 [false] [] [0,1,10]) ?_)))
 replace hm:=Ag hm;rcases hm with ⟨h0,hm⟩ | ⟨h0,hm⟩
 ·refine Bp (nt (Bd (Int.ofNat (Sl.n s0)) (Int.ofNat (Sl.n s1)))) h0 ?_
  refine .then (.rK (.ghs (fr 26 [(4,zB false)]) Ap (.k0 [false] [] [4]) ?_))
  refine .ret ?_
  exact Ay (zB false) hm
 ·refine Bq (nt (Bd (Int.ofNat (Sl.n s0)) (Int.ofNat (Sl.n s1)))) h0 ?_
  refine .skip (.ghs (fr 26 [(0,Sl.v 1 s0),(1,Sl.v 1 s1)]) Ap (.k0 [false] [] [0,1]) ?_)
  refine .join (v:=v) (fun y:Unit=>((fr 26 []),Ap)) (fun y=>Yb pu n) ?_ ?_
  ·rintro _ hm
   exact AfN pu n hm
  ·refine .then (.rK (.ghs (fr 26 [(0, Sl.v 1 s0), (1, Sl.v 1 s1), (12, (zI (Int.ofNat (Sl.n s0)))), (13, (zI (0 : Int)))]) Ap (.k0 [false] [] [0, 1, 12, 13]) ?_))
   refine .block (.loopM (v:=v) (fun y:Sl×Sl×Int×Int=>((fr 26 [(0,(Sl.v 1 y.1)),(1,(Sl.v 1 y.2.1)),(12,(zI y.2.2.1)),(13,(zI y.2.2.2))]),Ap)) (fun w y=>Qs pu n w y.1 y.2.1 y.2.2.1 y.2.2.2) n ⟨(s0,s1,(Int.ofNat (Sl.n s0)),(0:Int)),hm,(.k0 [false] [] [0,1,12,13])⟩ (fun _=>rfl) ?_)
   rintro w0 ⟨s2,s3,z0,z1⟩ hm
   replace hm:Uj pu n (Qs pu n w0) s2 s3 z0 z1 = some v:=hm
   unfold Uj at hm
   refine .then (.rK (.ghs (fr 26 [(0,Sl.v 1 s2),(1,Sl.v 1 s3),(12,zI z0),(13,zI z1),(14,(zB (AY z1 z0)))]) Ap (.k0 [false] [] [0,1,12,13,14]) ?_))
   refine .then ?_
   replace hm:=Ag hm;rcases hm with ⟨h1,hm⟩ | ⟨h1,hm⟩
   ·refine Bp (AY z1 z0) h1 ?_
    refine .skip (.ghs (fr 26 [(0,Sl.v 1 s2),(1,Sl.v 1 s3),(12,zI z0),(13,zI z1)]) Ap (.k0 [false] [] [0,1,12,13]) ?_)
    refine .then (.block (.then (.rK (.ghs (fr 26 [(0,Sl.v 1 s2),(1,Sl.v 1 s3),(5,zI z1),(12,zI z0),(13,zI z1)]) Ap (.k0 [false] [] [0,1,5,12,13]) ?_))))
    refine .then ?_
    replace hm:=Ab hm;obtain ⟨k1,h2,hm⟩:=hm
    obtain rfl:=AR h2
    replace hm:=Ae hm;obtain ⟨h3,hm⟩:=hm
    replace hm:=oI hm;obtain ⟨x0,h4,hm⟩:=hm
    replace hm:=Ae hm;obtain ⟨h5,hm⟩:=hm
    replace hm:=oI hm;obtain ⟨x1,h6,hm⟩:=hm
    refine .reg (eC 2 (keep Ap (bb (an (Nat.blt k1 (Sl.n s2)) true) (some (Cv (k1 * 1) (Sl.cs s2))) none)) (AX h3) (eD (keep Ap (AL (Sl.cs s2) (k1 * 1))) (AZ h4) (eC 2 (keep Ap (bb (an (Nat.blt k1 (Sl.n s3)) true) (some (Cv (k1 * 1) (Sl.cs s3))) none)) (AX h5) (eD (keep Ap (AL (Sl.cs s3) (k1 * 1))) (AZ h6) (eE))))) ?_
    refine .ghs (fr 26 [(0,Sl.v 1 s2),(1,Sl.v 1 s3),(12,zI z0),(13,(zI (Int.ofNat k1))),(24,(zB (nt (Bd x0 x1))))]) Ap (.k0 [false] [] [0,1,12,13,24]) ?_
    replace hm:=Ag hm;rcases hm with ⟨h7,hm⟩ | ⟨h7,hm⟩
    ·refine Bp (nt (Bd x0 x1)) h7 ?_
     refine .then (.rK (.ghs (fr 26 [(4,zB false)]) Ap (.k0 [false] [] [4]) ?_))
     refine .ret ?_
     exact Ay (zB false) hm
    ·refine Bq (nt (Bd x0 x1)) h7 ?_
     refine .skip (.ghs (fr 26 [(0,Sl.v 1 s2),(1,Sl.v 1 s3),(12,zI z0),(13,(zI (Int.ofNat k1)))]) Ap (.k0 [false] [] [0,1,12,13]) ?_)
     refine .rK ?_
     exact ⟨(s2,s3,z0,(Aj .i64 (Int.add (Int.ofNat k1) (1:Int)))),hm,(.k0 [false] [] [0,1,12,13])⟩
   ·refine Bq (AY z1 z0) h1 ?_
    refine .exit ?_
    exact ⟨(),hm,(.k0 [false] [] [])⟩
def Yc (pu:Af) (n:Nat):OV:=
 (some (.bool true))
def Uk (pu:Af) (n:Nat) (ih0:Sl→Sl→Int→OV) (s0 s1:Sl) (z0:Int):OV:=
 (bb (AY z0 (Int.ofNat (Sl.n s0))) (oo (EA z0) none fun k1=>(bb (an (Nat.blt k1 (Sl.n s0)) true) (oo (AL (Sl.cs s0) (k1 * 1)) none fun v0=>(oo (Bi .i64 v0) none fun x0=>(bb (an (Nat.blt k1 (Sl.n s1)) true) (oo (AL (Sl.cs s1) (k1 * 1)) none fun v1=>(oo (Bi .i64 v1) none fun x1=>(bb (nt (Bd x0 x1)) (some (.bool false)) (ih0 s0 s1 (Aj .i64 (Int.add (Int.ofNat k1) (1:Int))))))) none))) none)) (Yc pu n))
def Ul (pu:Af) (n w:Nat):Sl→Sl→Int→OV:=
 Nat.rec (motive:=fun _=>Sl→Sl→Int→OV) (fun _ _ _=>none) (fun _ ih0=>Uk pu n ih0) w
def AfO (pu:Af) (n:Nat) (s0 s1:Sl):OV:=
 (Ul pu n n s0 s1 (0:Int))
def m50 (pu:Af) (n:Nat) (args:LV):OV:=
 (ll args none fun a0 args=>(ll args none fun a1 args=>(ll args (oo (Bj 1 a0) none fun s0=>(oo (Bj 1 a1) none fun s1=>(AfO pu n s0 s1))) fun _ _=>none)))
theorem AfQ (pu:Af) (n:Nat) {v:Value} (hm:Yc pu n = some v):BN tt (Bb tabs isP pu (inl pu)) 1 bU (fr 21 []) Ap (Fin tt 1 [.tmp 4] v):=by
 unfold Yc at hm
 refine .then (.rK (.ghs (fr 21 [(4,zB true)]) Ap (.k0 [false] [] [4]) ?_))
 refine .ret ?_
 exact Ay (zB true) hm
theorem r50 {call:A8} (pu:Af) (n:Nat) (hcall:call = Bb tabs isP pu (inl pu)) {args:LV} {v:Value} (hm:m50 pu n args = some v) (_:∀ x ∈ args,closed2 x = true):args.length≤21∧BN tt call 1 R8 (Fr.made 21 args) (Ao tabs) (Fin tt 1 [.tmp 4] v):=by
 subst hcall
 unfold m50 at hm
 replace hm:=Ad hm;obtain ⟨a0,args_0,rfl,hm⟩:=hm
 replace hm:=Ad hm;obtain ⟨a1,args_1,rfl,hm⟩:=hm
 replace hm:=AC hm;obtain ⟨rfl,hm⟩:=hm
 replace hm:=Al hm;obtain ⟨s0,rfl,hm⟩:=hm
 replace hm:=Al hm;obtain ⟨s1,rfl,hm⟩:=hm
 unfold AfO at hm
 refine ⟨by simp,?_⟩
 refine .same (F':=(fr 21 [(0,Sl.v 1 s0),(1,Sl.v 1 s1)])) (H':=Ap) (by kernel_rfl) (by kernel_rfl) ?_
 refine .then (.rK (.ghs (fr 21 [(0,Sl.v 1 s0),(1,Sl.v 1 s1)]) Ap (.k0 [false] [] [0,1]) ?_))
 refine .join (v:=v) (fun y:Unit=>((fr 21 []),Ap)) (fun y=>Yc pu n) ?_ ?_
 ·rintro _ hm
  exact AfQ pu n hm
 ·refine .then (.rK (.ghs (fr 21 [(0, Sl.v 1 s0), (1, Sl.v 1 s1), (5, (zI (0 : Int)))]) Ap (.k0 [false] [] [0, 1, 5]) ?_))
  refine .block (.loopM (v:=v) (fun y:Sl×Sl×Int=>((fr 21 [(0,(Sl.v 1 y.1)),(1,(Sl.v 1 y.2.1)),(5,(zI y.2.2))]),Ap)) (fun w y=>Ul pu n w y.1 y.2.1 y.2.2) n ⟨(s0,s1,(0:Int)),hm,(.k0 [false] [] [0,1,5])⟩ (fun _=>rfl) ?_)
  rintro w0 ⟨s2,s3,z0⟩ hm
  replace hm:Uk pu n (Ul pu n w0) s2 s3 z0 = some v:=hm
  unfold Uk at hm
  refine .then (.then (.rK (.ghs (fr 21 [(0,Sl.v 1 s2),(1,Sl.v 1 s3),(5,zI z0),(9,(zB (AY z0 (Int.ofNat (Sl.n s2)))))]) Ap (.k0 [false] [] [0,1,5,9]) ?_)))
  replace hm:=Ag hm;rcases hm with ⟨h0,hm⟩ | ⟨h0,hm⟩
  ·refine Bp (AY z0 (Int.ofNat (Sl.n s2))) h0 ?_
   refine .skip (.ghs (fr 21 [(0,Sl.v 1 s2),(1,Sl.v 1 s3),(5,zI z0)]) Ap (.k0 [false] [] [0,1,5]) ?_)
   refine .then (.block (.then ?_))
   replace hm:=Ab hm;obtain ⟨k1,h1,hm⟩:=hm
   obtain rfl:=AR h1
   replace hm:=Ae hm;obtain ⟨h2,hm⟩:=hm
   replace hm:=oI hm;obtain ⟨x0,h3,hm⟩:=hm
   replace hm:=Ae hm;obtain ⟨h4,hm⟩:=hm
   replace hm:=oI hm;obtain ⟨x1,h5,hm⟩:=hm
   refine .reg (eC 2 (keep Ap (bb (an (Nat.blt k1 (Sl.n s2)) true) (some (Cv (k1 * 1) (Sl.cs s2))) none)) (AX h2) (eD (keep Ap (AL (Sl.cs s2) (k1 * 1))) (AZ h3) (eC 2 (keep Ap (bb (an (Nat.blt k1 (Sl.n s3)) true) (some (Cv (k1 * 1) (Sl.cs s3))) none)) (AX h4) (eD (keep Ap (AL (Sl.cs s3) (k1 * 1))) (AZ h5) (eE))))) ?_
   refine .ghs (fr 21 [(0,Sl.v 1 s2),(1,Sl.v 1 s3),(5,(zI (Int.ofNat k1))),(20,(zB (nt (Bd x0 x1))))]) Ap (.k0 [false] [] [0,1,5,20]) ?_
   replace hm:=Ag hm;rcases hm with ⟨h6,hm⟩ | ⟨h6,hm⟩
   ·refine Bp (nt (Bd x0 x1)) h6 ?_
    refine .then (.rK (.ghs (fr 21 [(4,zB false)]) Ap (.k0 [false] [] [4]) ?_))
    refine .ret ?_
    exact Ay (zB false) hm
   ·refine Bq (nt (Bd x0 x1)) h6 ?_
    refine .skip (.ghs (fr 21 [(0,Sl.v 1 s2),(1,Sl.v 1 s3),(5,(zI (Int.ofNat k1)))]) Ap (.k0 [false] [] [0,1,5]) ?_)
    refine .rK ?_
    exact ⟨(s2,s3,(Aj .i64 (Int.add (Int.ofNat k1) (1:Int)))),hm,(.k0 [false] [] [0,1,5])⟩
  ·refine Bq (AY z0 (Int.ofNat (Sl.n s2))) h0 ?_
   refine .exit ?_
   exact ⟨(),hm,(.k0 [false] [] [])⟩
def Qt (pu:Af) (n n0 c0:Nat) (q0:LV):OV:=
 (bb (Dp (Nat.ble 2 c0) (MQ q0)) (bb (Au Ah q0) (oo (pu 10820 [(.slice (some ⟨1,0,some 1⟩) n0 c0),(.func (.func 70) ⟨[]⟩ ⟨[]⟩),(.agg ⟨q0⟩)]) none fun v0=>(oo (CQ v0) none fun l0=>(ll l0 none fun v1 l0=>(ll l0 none fun v2 l0=>(ll l0 (bb (MC v1) (oo (Bt v2) none fun q1=>(bb (Au Ah q1) (bb (Au Ah q1) (bb (Dp (Nat.ble 2 c0) (MQ q1)) (bb (Au Ah q1) (oo (pu 10830 [(.slice (some ⟨1,0,some 1⟩) n0 c0),(.func (.func 49) ⟨[]⟩ ⟨[]⟩),(.agg ⟨q1⟩)]) none fun v3=>(oo (CQ v3) none fun l1=>(ll l1 none fun v4 l1=>(ll l1 none fun v5 l1=>(ll l1 (oo (KP 1 0 1 v4) none fun y0=>(oo (Bt v5) none fun q2=>(bb (Au Ah q2) (bb (Au Ah q2) (bb (an (Nat.ble (0 + (NC.n y0) * 1) (len q2)) (Au Ah (Aq ((NC.n y0) * 1) (Am 0 q2)))) (some (Sl.v 1 (Sl.mk (NC.n y0) 0 (Aq ((NC.n y0) * 1) (Am 0 q2))))) none) none) none))) fun _ _=>none))))) none) none) none) none)) none) fun _ _=>none))))) none) none)
def OJ (pu:Af) (n:Nat) (ih0:Nat→LV→Sl→Nat→Nat→Int→Int→LV→OV) (n0:Nat) (q0:LV) (s0:Sl) (n1 c0:Nat) (z0 z1:Int) (q1:LV):OV:=
 (bb (Au Ah q1) (bb (AY z1 z0) (oo (pu 45 [(Cv n0 q0),Sl.v 1 s0,.int .i64 z1]) none fun v0=>(oo (Bj 1 v0) none fun s1=>(bb (GV 1 24 n1 c0 1 q1) (bb (Au Ah (Br (Am 0 q1) [Sl.v 1 s1])) (ih0 n0 q0 s0 (n1 + 1) (2 * (n1 + 1) + bb false 1 0) z0 (Aj .i64 (Int.add z1 (1:Int))) (Br (Am 0 q1) [Sl.v 1 s1])) none) none))) (Qt pu n n1 c0 q1)) none)
def OL (pu:Af) (n w:Nat):Nat→LV→Sl→Nat→Nat→Int→Int→LV→OV:=
 Nat.rec (motive:=fun _=>Nat→LV→Sl→Nat→Nat→Int→Int→LV→OV) (fun _ _ _ _ _ _ _ _=>none) (fun _ ih0=>OJ pu n ih0) w
def AfR (pu:Af) (n:Nat) (p0:Db) (s0:Sl):OV:=
 (oo (AL (Db.cs p0) (((Db.off p0) + 0) + 3)) none fun v0=>(oo (Bj 1 v0) none fun s1=>(OL pu n n (Db.off p0) (Db.cs p0) s0 0 0 (Int.ofNat (Sl.n s1)) (0:Int) ([]:LV))))
def m52 (pu:Af) (n:Nat) (args:LV):OV:=
 (ll args none fun a0 args=>(ll args none fun a1 args=>(ll args (oo (Pv a0) none fun p0=>(oo (Bj 1 a1) none fun s0=>(AfR pu n p0 s0))) fun _ _=>none)))
theorem AfT (pu:Af) (n n0 c0:Nat) (q0:LV) {v:Value} (hm:Qt pu n n0 c0 q0 = some v):BN tt (Bb tabs isP pu (inl pu)) 1 bV (fr 28 [(5,sc 1 0 1 n0 c0)]) (hT 2 [oC q0]) (Fin tt 1 [.tmp 4] v):=by
 unfold Qt at hm
 refine .then ?_
 replace hm:=Ae hm;obtain ⟨h0,hm⟩:=hm
 replace hm:=Ae hm;obtain ⟨h1,hm⟩:=hm
 replace hm:=Ab hm;obtain ⟨v0,h2,hm⟩:=hm
 replace hm:=Ch hm;obtain ⟨l0,rfl,hm⟩:=hm
 replace hm:=Ad hm;obtain ⟨v1,l7297_0,rfl,hm⟩:=hm
 replace hm:=Ad hm;obtain ⟨v2,l7297_1,rfl,hm⟩:=hm
 replace hm:=AC hm;obtain ⟨rfl,hm⟩:=hm
 replace hm:=Ae hm;obtain ⟨h3,hm⟩:=hm
 obtain rfl:=Oo h3
 replace hm:=BG hm;obtain ⟨q1,rfl,hm⟩:=hm
 replace hm:=Ae hm;obtain ⟨h4,hm⟩:=hm
 refine .reg (eC 1 (EK tabs [[none],[none]] 2 [.tmp 0 false] [false] (pu 10820) [sc 1 0 1 n0 c0,(.func (.func 70) ⟨[]⟩ ⟨[]⟩)] (hT 2 [oC q0])) (EL (as:=[sc 1 0 1 n0 c0,(.func (.func 70) ⟨[]⟩ ⟨[]⟩)]) (H1:=(hT 2 [oC q0])) (BS (Dm Dk) (BS (Dm Dk) Gj)) (EI (H2:=(hT 2 [oC q1])) (v:=(.tuple ⟨[]⟩)) (v':=(.tuple ⟨[]⟩)) [some 0,some 1] [(false,some 1)] [oC q0] [sc 1 0 1 n0 c0,(.func (.func 70) ⟨[]⟩ ⟨[]⟩)] [(.agg ⟨q1⟩)] [oC q1] [some 0,some 1] [(false,oC q1)] [oC q1] (trE (by kernel_rfl) (XX h0 rfl)) (En (Nb (anc:=[]) h1) BX) (Eq.trans (by kernel_rfl) h2) (En rfl BX) (En (KO h4) BX))) (eE)) ?_
 replace hm:=Ae hm;obtain ⟨h5,hm⟩:=hm
 refine .ghs (fr 28 [(5,sc 1 0 1 n0 c0)]) (hT 2 [oC q1]) (.k [1] [false] [.tmp 5 false] [5] ⟨BI h5,trivial⟩) ?_
 refine .then ?_
 replace hm:=Ae hm;obtain ⟨h6,hm⟩:=hm
 replace hm:=Ae hm;obtain ⟨h7,hm⟩:=hm
 replace hm:=Ab hm;obtain ⟨v3,h8,hm⟩:=hm
 replace hm:=Ch hm;obtain ⟨l1,rfl,hm⟩:=hm
 replace hm:=Ad hm;obtain ⟨v4,l12936_0,rfl,hm⟩:=hm
 replace hm:=Ad hm;obtain ⟨v5,l12936_1,rfl,hm⟩:=hm
 replace hm:=AC hm;obtain ⟨rfl,hm⟩:=hm
 replace hm:=Ab hm;obtain ⟨y0,h9,hm⟩:=hm
 obtain rfl:=F5 h9
 replace hm:=BG hm;obtain ⟨q2,rfl,hm⟩:=hm
 replace hm:=Ae hm;obtain ⟨h10,hm⟩:=hm
 refine .reg (eC 1 (EK tabs [[none],[none]] 2 [.tmp 0 false] [false] (pu 10830) [sc 1 0 1 n0 c0,(.func (.func 49) ⟨[]⟩ ⟨[]⟩)] (hT 2 [oC q1])) (EL (as:=[sc 1 0 1 n0 c0,(.func (.func 49) ⟨[]⟩ ⟨[]⟩)]) (H1:=(hT 2 [oC q1])) (BS (Dm Dk) (BS (Dm Dk) Gj)) (EI (H2:=(hT 2 [oC q2])) (v:=(sc 1 0 1 (NC.n y0) (NC.c y0))) (v':=(sc 1 0 1 (NC.n y0) (NC.c y0))) [some 0,some 1] [(false,some 1)] [oC q1] [sc 1 0 1 n0 c0,(.func (.func 49) ⟨[]⟩ ⟨[]⟩)] [(.agg ⟨q2⟩)] [oC q2] [some 0,some 1] [(false,oC q2)] [oC q2] (trE (by kernel_rfl) (XX h6 rfl)) (En (Nb (anc:=[]) h7) BX) (Eq.trans (by kernel_rfl) h8) (En rfl BX) (En (KO h10) BX))) (eE)) ?_
 replace hm:=Ae hm;obtain ⟨h11,hm⟩:=hm
 refine .ghs (fr 28 [(4,(sc 1 0 1 (NC.n y0) (NC.c y0)))]) (hT 2 [oC q2]) (.k [1] [false] [.tmp 4 false] [4] ⟨BI h11,trivial⟩) ?_
 replace hm:=Ae hm;obtain ⟨h12,hm⟩:=hm
 refine .ghs (Fr.puts (fr 28 [(4,(sc 1 0 1 (NC.n y0) (NC.c y0)))]) [(4,(Sl.v 1 (Sl.mk (NC.n y0) 0 (Aq ((NC.n y0) * 1) (Am 0 q2)))))]) (hT 2 [.dead]) (.freezeC 1 4 1 (an (Nat.ble (0 + (NC.n y0) * 1) (len q2)) (Au Ah (Aq ((NC.n y0) * 1) (Am 0 q2)))) (F1:=(Fr.puts (fr 28 [(4,(sc 1 0 1 (NC.n y0) (NC.c y0)))]) [(4,(Sl.v 1 (Sl.mk (NC.n y0) 0 (Aq ((NC.n y0) * 1) (Am 0 q2)))))])) (H1:=(hT 2 [.dead])) (by kernel_rfl) (by kernel_rfl) h12 (E9.id _ _)) ?_
 refine .ret ?_
 exact Ay (Sl.v 1 (Sl.mk (NC.n y0) 0 (Aq ((NC.n y0) * 1) (Am 0 q2)))) hm
theorem r52 {call:A8} (pu:Af) (n:Nat) (hcall:call = Bb tabs isP pu (inl pu)) {args:LV} {v:Value} (hm:m52 pu n args = some v) (_:∀ x ∈ args,closed2 x = true):args.length≤28∧BN tt call 1 R9 (Fr.made 28 args) (Ao tabs) (Fin tt 1 [.tmp 4] v):=by
 subst hcall
 unfold m52 at hm
 replace hm:=Ad hm;obtain ⟨a0,args_0,rfl,hm⟩:=hm
 replace hm:=Ad hm;obtain ⟨a1,args_1,rfl,hm⟩:=hm
 replace hm:=AC hm;obtain ⟨rfl,hm⟩:=hm
 replace hm:=Ab hm;obtain ⟨p0,h0,hm⟩:=hm
 obtain rfl:=F7 h0
 replace hm:=Al hm;obtain ⟨s0,rfl,hm⟩:=hm
 unfold AfR at hm
 refine ⟨by simp,?_⟩
 refine .same (F':=(fr 28 [(0,(Cv (Db.off p0) (Db.cs p0))),(1,Sl.v 1 s0)])) (H':=Ap) (by kernel_rfl) (by kernel_rfl) ?_
 refine .then (.rK (.ghs (fr 28 [(0,(Cv (Db.off p0) (Db.cs p0))),(1,Sl.v 1 s0)]) Ap (.k0 [false] [] [0,1]) ?_))
 refine .then (.rK (.ghs (fr 28 [(0,(Cv (Db.off p0) (Db.cs p0))),(1,Sl.v 1 s0),(5,(.slice none 0 0))]) Ap (.k0 [false] [] [0,1,5]) ?_))
 refine .join (v:=v) (fun y:Nat×Nat×LV=>((fr 28 [(5,(sc 1 0 1 y.1 y.2.1))]),(hT 2 [(oC y.2.2)]))) (fun y=>Qt pu n y.1 y.2.1 y.2.2) ?_ ?_
 ·rintro ⟨n0, c0, q0⟩ hm
  exact AfT pu n n0 c0 q0 hm
 ·refine .then ?_
  replace hm:=oS hm;obtain ⟨s1,h1,hm⟩:=hm
  refine .reg (eC 4 (keep Ap (AL (Db.cs p0) (((Db.off p0) + 0) + 3))) (AZ h1) (eE)) ?_
  refine .ghs (fr 28 [(0,(Cv (Db.off p0) (Db.cs p0))),(1,Sl.v 1 s0),(5,(.slice none 0 0)),(12,(zI (Int.ofNat (Sl.n s1)))),(13,(zI (0:Int)))]) Ap (.k0 [false] [] [0,1,5,12,13]) ?_
  refine .block (.loopM (v:=v) (fun y:Nat×LV×Sl×Nat×Nat×Int×Int×LV=>((fr 28 [(0,(Cv y.1 y.2.1)),(1,(Sl.v 1 y.2.2.1)),(5,(sc 1 0 1 y.2.2.2.1 y.2.2.2.2.1)),(12,(zI y.2.2.2.2.2.1)),(13,(zI y.2.2.2.2.2.2.1))]),(hT 2 [(oC y.2.2.2.2.2.2.2)]))) (fun w y=>OL pu n w y.1 y.2.1 y.2.2.1 y.2.2.2.1 y.2.2.2.2.1 y.2.2.2.2.2.1 y.2.2.2.2.2.2.1 y.2.2.2.2.2.2.2) n ⟨((Db.off p0),(Db.cs p0),s0,0,0,(Int.ofNat (Sl.n s1)),(0:Int),([]:LV)),hm,(.thaw 5 1 (by kernel_rfl) (.k0 [false] [.tmp 5 false] [0,1,5,12,13]))⟩ (fun _=>rfl) ?_)
  rintro w0 ⟨n1,q1,s2,n2,c1,z0,z1,q2⟩ hm
  replace hm:OJ pu n (OL pu n w0) n1 q1 s2 n2 c1 z0 z1 q2 = some v:=hm
  unfold OJ at hm
  refine .then (.rK ?_)
  replace hm:=Ae hm;obtain ⟨h2,hm⟩:=hm
  refine .ghs (fr 28 [(0,(Cv n1 q1)),(1,Sl.v 1 s2),(5,sc 1 0 1 n2 c1),(12,zI z0),(13,zI z1),(14,(zB (AY z1 z0)))]) (hT 2 [oC q2]) (.k [1] [false] [.tmp 5 false] [0,1,5,12,13,14] ⟨BI h2,trivial⟩) ?_
  refine .then ?_
  replace hm:=Ag hm;rcases hm with ⟨h3,hm⟩ | ⟨h3,hm⟩
  ·refine Bp (AY z1 z0) h3 ?_
   refine .skip (.ghs (fr 28 [(0,(Cv n1 q1)),(1,Sl.v 1 s2),(5,sc 1 0 1 n2 c1),(12,zI z0),(13,zI z1)]) (hT 2 [oC q2]) (.k [1] [false] [.tmp 5 false] [0,1,5,12,13] ⟨BI h2,trivial⟩) ?_)
   refine .then (.block (.then (.rK (.ghs (fr 28 [(0,(Cv n1 q1)),(1,Sl.v 1 s2),(5,sc 1 0 1 n2 c1),(6,zI z1),(12,zI z0),(13,zI z1)]) (hT 2 [oC q2]) (.k [1] [false] [.tmp 5 false] [0,1,5,6,12,13] ⟨BI h2,trivial⟩) ?_))))
   replace hm:=oS hm;obtain ⟨s3,h4,hm⟩:=hm
   replace hm:=Ae hm;obtain ⟨h5,hm⟩:=hm
   refine .reg (eC 4 ((oo (pu 45 [(Cv n1 q1),Sl.v 1 s2,zI z1]) none fun v=>some (v,(hT 2 [oC q2])))) (AB h4) (eC 1 (Oc 1 24 n2 c1 1 1 q2 [Sl.v 1 s3] [] (hT 3 [oC q2,(oC [Sl.v 1 s3])])) (I1 h5) (eE))) ?_
   replace hm:=Ae hm;obtain ⟨h6,hm⟩:=hm
   refine .ghs (fr 28 [(0,(Cv n1 q1)),(1,Sl.v 1 s2),(5,(sc 1 0 1 (n2 + 1) (d2 (n2 + 1)))),(12,zI z0),(13,zI z1)]) (hT 2 [(oC (Br (Am 0 q2) [Sl.v 1 s3]))]) (.k [3] [false] [.tmp 5 false] [0,1,5,12,13] ⟨BI h6,trivial⟩) ?_
   refine .rK ?_
   exact ⟨(n1,q1,s2,(n2 + 1),(d2 (n2 + 1)),z0,(Aj .i64 (Int.add z1 (1:Int))),(Br (Am 0 q2) [Sl.v 1 s3])),hm,(.k [1] [false] [.tmp 5 false] [0,1,5,12,13] ⟨BI h6,trivial⟩)⟩
  ·refine Bq (AY z1 z0) h3 ?_
   refine .exit ?_
   exact ⟨(n2,c1,q2),hm,(.k [1] [false] [.tmp 5 false] [5] ⟨BI h2,trivial⟩)⟩
def Um (pu:Af) (n:Nat) (s0:Sl):OV:=
 (bb (Nat.beq (Sl.n s0) 0) (some (Sl.v 1 (Sl.mk 0 0 (Aq (0 * 1) (Am 0 ([]:LV)))))) (bb (EQ (0 + (Sl.n s0)) 8) (bb (Au Ah (Aq ((Sl.n s0) * 1) (Sl.cs s0))) (bb (an (Nat.ble (0 + (0 + (Sl.n s0)) * 1) (len (Aq ((Sl.n s0) * 1) (Sl.cs s0)))) (Au Ah (Aq ((0 + (Sl.n s0)) * 1) (Am 0 (Aq ((Sl.n s0) * 1) (Sl.cs s0)))))) (some (Sl.v 1 (Sl.mk (0 + (Sl.n s0)) 0 (Aq ((0 + (Sl.n s0)) * 1) (Am 0 (Aq ((Sl.n s0) * 1) (Sl.cs s0))))))) none) none) none))
def Un (pu:Af) (n:Nat) (ih0:Sl→Sl→Int→Int→Int→Int→Sl→OV) (s0 s1:Sl) (z0 z1 z2 z3:Int) (s2:Sl):OV:=
 (ih0 s0 s1 (Aj .i64 (Int.add z0 (1:Int))) z1 z2 z3 s2)
def OM (pu:Af) (n:Nat) (ih0:Sl→Sl→Int→Int→Int→Int→Sl→OV) (s0 s1:Sl) (z0 z1 z2 z3:Int) (s2:Sl):OV:=
 (bb (AY z0 (Int.ofNat (Sl.n s2))) (oo (EA z0) none fun k1=>(bb (an (Nat.blt k1 (Sl.n s2)) true) (oo (AL (Sl.cs s2) (k1 * 1)) none fun v0=>(oo (Bi .i64 v0) none fun x0=>(oo (pu 10480 [(.agg ⟨[.int .i64 z1,.int .i64 z2,.int .i64 z3,Sl.v 1 s2]⟩),Sl.v 1 s0,.int .i64 x0]) none fun v1=>(oo (CQ v1) none fun l0=>(ll l0 none fun v2 l0=>(ll l0 (oo (Bj 1 v2) none fun s3=>(oo (pu 54 [Sl.v 1 s3,Sl.v 1 s1]) none fun v3=>(oo (Bf v3) none fun b0=>(bb b0 (bb (an (Nat.blt k1 (Sl.n s2)) true) (oo (AL (Sl.cs s2) (k1 * 1)) none fun v4=>(oo (Bi .i64 v4) none fun x1=>(oo (pu 10480 [(.agg ⟨[.int .i64 z1,.int .i64 z2,.int .i64 z3,Sl.v 1 s2]⟩),Sl.v 1 s0,.int .i64 x1]) none fun v5=>(oo (CQ v5) none fun l1=>(ll l1 none fun v6 l1=>(ll l1 (oo (Bj 1 v6) none fun s4=>(Un pu n ih0 s0 s4 (Int.ofNat k1) z1 z2 z3 s2)) fun _ _=>none)))))) none) (Un pu n ih0 s0 s1 (Int.ofNat k1) z1 z2 z3 s2))))) fun _ _=>none)))))) none)) (Um pu n s1))
def OO (pu:Af) (n w:Nat):Sl→Sl→Int→Int→Int→Int→Sl→OV:=
 Nat.rec (motive:=fun _=>Sl→Sl→Int→Int→Int→Int→Sl→OV) (fun _ _ _ _ _ _ _=>none) (fun _ ih0=>OM pu n ih0) w
def AfU (pu:Af) (n:Nat) (x0 x1 x2:Int) (s0 s1:Sl):OV:=
 (OO pu n n s1 s1 (0:Int) x0 x1 x2 s0)
def m53 (pu:Af) (n:Nat) (args:LV):OV:=
 (ll args none fun a0 args=>(ll args none fun a1 args=>(ll args (oo (Bt a0) none fun l0=>(ll l0 none fun v0 l0=>(ll l0 none fun v1 l0=>(ll l0 none fun v2 l0=>(ll l0 none fun v3 l0=>(ll l0 (oo (Bi .i64 v0) none fun x0=>(oo (Bi .i64 v1) none fun x1=>(oo (Bi .i64 v2) none fun x2=>(oo (Bj 1 v3) none fun s0=>(oo (Bj 1 a1) none fun s1=>(AfU pu n x0 x1 x2 s0 s1)))))) fun _ _=>none)))))) fun _ _=>none)))
theorem AfW (pu:Af) (n:Nat) (s0:Sl) {v:Value} (hm:Um pu n s0 = some v):BN tt (Bb tabs isP pu (inl pu)) 1 bW (fr 36 [(5,Sl.v 1 s0)]) Ap (Fin tt 1 [.tmp 4] v):=by
 unfold Um at hm
 refine .then ?_
 replace hm:=Ag hm;rcases hm with ⟨h0,hm⟩ | ⟨h0,hm⟩
 ·refine .reg (eC 2 (Ql (hT 2 [(oC [])]) 1 8 (sc 1 0 1 0 1) s0) (Ze h0) (eE)) ?_
  refine .ghs (fr 36 [(4,sc 1 0 1 0 1)]) (hT 2 [(oC [])]) (.k0 [false] [.tmp 4 false] [4]) ?_
  refine .ghs (Fr.puts (fr 36 [(4,sc 1 0 1 0 1)]) [(4,(Sl.v 1 (Sl.mk 0 0 (Aq (0 * 1) (Am 0 ([]:LV))))))]) (hT 2 [.dead]) (.freeze 1 4 1 (by kernel_rfl) (by kernel_rfl) (E9.id _ _)) ?_
  refine .ret ?_
  exact Ay (Sl.v 1 (Sl.mk 0 0 (Aq (0 * 1) (Am 0 ([]:LV))))) hm
 ·replace hm := Ae hm; obtain ⟨h1, hm⟩ := hm
  refine .reg (eC 2 (Ql (hT 2 [(oC [])]) 1 8 (sc 1 0 1 0 1) s0) (Zf h0 h1 (by kernel_rfl)) (eE)) ?_
  replace hm:=Ae hm;obtain ⟨h2,hm⟩:=hm
  refine .ghs (fr 36 [(4,(sc 1 0 1 (0 + (Sl.n s0)) (d2 (0 + (Sl.n s0)))))]) (hT 2 [(oC (Aq ((Sl.n s0) * 1) (Sl.cs s0)))]) (.k [2] [false] [.tmp 4 false] [4] ⟨BI h2,trivial⟩) ?_
  replace hm:=Ae hm;obtain ⟨h3,hm⟩:=hm
  refine .ghs (Fr.puts (fr 36 [(4,(sc 1 0 1 (0 + (Sl.n s0)) (d2 (0 + (Sl.n s0)))))]) [(4,(Sl.v 1 (Sl.mk (0 + (Sl.n s0)) 0 (Aq ((0 + (Sl.n s0)) * 1) (Am 0 (Aq ((Sl.n s0) * 1) (Sl.cs s0)))))))]) (hT 2 [.dead]) (.freezeC 1 4 1 (an (Nat.ble (0 + (0 + (Sl.n s0)) * 1) (len (Aq ((Sl.n s0) * 1) (Sl.cs s0)))) (Au Ah (Aq ((0 + (Sl.n s0)) * 1) (Am 0 (Aq ((Sl.n s0) * 1) (Sl.cs s0)))))) (F1:=(Fr.puts (fr 36 [(4,(sc 1 0 1 (0 + (Sl.n s0)) (d2 (0 + (Sl.n s0)))))]) [(4,(Sl.v 1 (Sl.mk (0 + (Sl.n s0)) 0 (Aq ((0 + (Sl.n s0)) * 1) (Am 0 (Aq ((Sl.n s0) * 1) (Sl.cs s0)))))))])) (H1:=(hT 2 [.dead])) (by kernel_rfl) (by kernel_rfl) h3 (E9.id _ _)) ?_
  refine .ret ?_
  exact Ay (Sl.v 1 (Sl.mk (0 + (Sl.n s0)) 0 (Aq ((0 + (Sl.n s0)) * 1) (Am 0 (Aq ((Sl.n s0) * 1) (Sl.cs s0)))))) hm
theorem r53 {call:A8} (pu:Af) (n:Nat) (hcall:call = Bb tabs isP pu (inl pu)) {args:LV} {v:Value} (hm:m53 pu n args = some v) (_:∀ x ∈ args,closed2 x = true):args.length≤36∧BN tt call 1 Sa (Fr.made 36 args) (Ao tabs) (Fin tt 1 [.tmp 4] v):=by
 subst hcall
 unfold m53 at hm
 replace hm:=Ad hm;obtain ⟨a0,args_0,rfl,hm⟩:=hm
 replace hm:=Ad hm;obtain ⟨a1,args_1,rfl,hm⟩:=hm
 replace hm:=AC hm;obtain ⟨rfl,hm⟩:=hm
 replace hm:=BG hm;obtain ⟨l0,rfl,hm⟩:=hm
 replace hm:=Ad hm;obtain ⟨v0,l12976_0,rfl,hm⟩:=hm
 replace hm:=Ad hm;obtain ⟨v1,l12976_1,rfl,hm⟩:=hm
 replace hm:=Ad hm;obtain ⟨v2,l12976_2,rfl,hm⟩:=hm
 replace hm:=Ad hm;obtain ⟨v3,l12976_3,rfl,hm⟩:=hm
 replace hm:=AC hm;obtain ⟨rfl,hm⟩:=hm
 replace hm:=Ai hm;obtain ⟨x0,rfl,hm⟩:=hm
 replace hm:=Ai hm;obtain ⟨x1,rfl,hm⟩:=hm
 replace hm:=Ai hm;obtain ⟨x2,rfl,hm⟩:=hm
 replace hm:=Al hm;obtain ⟨s0,rfl,hm⟩:=hm
 replace hm:=Al hm;obtain ⟨s1,rfl,hm⟩:=hm
 unfold AfU at hm
 refine ⟨by simp,?_⟩
 refine .same (F':=(fr 36 [(0,(.agg ⟨[zI x0,zI x1,zI x2,Sl.v 1 s0]⟩)),(1,Sl.v 1 s1)])) (H':=Ap) (by kernel_rfl) (by kernel_rfl) ?_
 refine .then (.rK (.ghs (fr 36 [(1,Sl.v 1 s1),(2,pt 1 0)]) (hT 2 [(oC [zI x0,zI x1,zI x2,Sl.v 1 s0])]) (.k0 [false] [.tmp 2 false] [1,2]) ?_))
 refine .then (.rK (.ghs (fr 36 [(1,Sl.v 1 s1),(2,pt 1 0),(5,Sl.v 1 s1)]) (hT 2 [(oC [zI x0,zI x1,zI x2,Sl.v 1 s0])]) (.k0 [false] [.tmp 2 false] [1,2,5]) ?_))
 refine .join (v:=v) (fun y:Sl=>((fr 36 [(5,Sl.v 1 y)]),Ap)) (fun y=>Um pu n y) ?_ ?_
 ·rintro s2 hm
  exact AfW pu n s2 hm
 ·refine .then (.rK (.ghs (fr 36 [(1, Sl.v 1 s1), (2, pt 1 0), (5, Sl.v 1 s1), (6, (zI (0 : Int)))]) (hT 2 [(oC [zI x0, zI x1, zI x2, Sl.v 1 s0])]) (.k0 [false] [.tmp 2 false] [1, 2, 5, 6]) ?_))
  refine .block (.loopM (v:=v) (fun y:Sl×Sl×Int×Int×Int×Int×Sl=>((fr 36 [(1,(Sl.v 1 y.1)),(2,pt 1 0),(5,(Sl.v 1 y.2.1)),(6,(zI y.2.2.1))]),(hT 2 [(oC [(zI y.2.2.2.1),(zI y.2.2.2.2.1),(zI y.2.2.2.2.2.1),(Sl.v 1 y.2.2.2.2.2.2)])]))) (fun w y=>OO pu n w y.1 y.2.1 y.2.2.1 y.2.2.2.1 y.2.2.2.2.1 y.2.2.2.2.2.1 y.2.2.2.2.2.2) n ⟨(s1,s1,(0:Int),x0,x1,x2,s0),hm,(.k0 [false] [.tmp 2 false] [1,2,5,6])⟩ (fun _=>rfl) ?_)
  rintro w0 ⟨s3,s4,z0,z1,z2,z3,s5⟩ hm
  replace hm:OM pu n (OO pu n w0) s3 s4 z0 z1 z2 z3 s5 = some v:=hm
  unfold OM at hm
  refine .then (.then (.rK (.ghs (fr 36 [(1,Sl.v 1 s3),(2,pt 1 0),(5,Sl.v 1 s4),(6,zI z0),(12,(zB (AY z0 (Int.ofNat (Sl.n s5)))))]) (hT 2 [(oC [zI z1,zI z2,zI z3,Sl.v 1 s5])]) (.k0 [false] [.tmp 2 false] [1,2,5,6,12]) ?_)))
  replace hm:=Ag hm;rcases hm with ⟨h0,hm⟩ | ⟨h0,hm⟩
  ·refine Bp (AY z0 (Int.ofNat (Sl.n s5))) h0 ?_
   refine .skip (.ghs (fr 36 [(1,Sl.v 1 s3),(2,pt 1 0),(5,Sl.v 1 s4),(6,zI z0)]) (hT 2 [(oC [zI z1,zI z2,zI z3,Sl.v 1 s5])]) (.k0 [false] [.tmp 2 false] [1,2,5,6]) ?_)
   refine .join (v:=v) (fun y:Sl×Sl×Int×Int×Int×Int×Sl=>((fr 36 [(1,(Sl.v 1 y.1)),(2,pt 1 0),(5,(Sl.v 1 y.2.1)),(6,(zI y.2.2.1))]),(hT 2 [(oC [(zI y.2.2.2.1),(zI y.2.2.2.2.1),(zI y.2.2.2.2.2.1),(Sl.v 1 y.2.2.2.2.2.2)])]))) (fun y=>Un pu n (OO pu n w0) y.1 y.2.1 y.2.2.1 y.2.2.2.1 y.2.2.2.2.1 y.2.2.2.2.2.1 y.2.2.2.2.2.2) ?_ ?_
   ·rintro ⟨s6, s7, z4, z5, z6, z7, s8⟩ hm
    unfold Un at hm
    refine .rK ?_
    exact ⟨(s6,s7,(Aj .i64 (Int.add z4 (1:Int))),z5,z6,z7,s8),hm,(.k0 [false] [.tmp 2 false] [1,2,5,6])⟩
   ·refine .block (.then ?_)
    replace hm:=Ab hm;obtain ⟨k1,h1,hm⟩:=hm
    obtain rfl:=AR h1
    replace hm:=Ae hm;obtain ⟨h2,hm⟩:=hm
    replace hm:=oI hm;obtain ⟨x3,h3,hm⟩:=hm
    replace hm:=Ab hm;obtain ⟨v4,h4,hm⟩:=hm
    replace hm:=Ch hm;obtain ⟨l1,rfl,hm⟩:=hm
    replace hm:=Ad hm;obtain ⟨v5,l13763_0,rfl,hm⟩:=hm
    replace hm:=AC hm;obtain ⟨rfl,hm⟩:=hm
    replace hm:=Al hm;obtain ⟨s9,rfl,hm⟩:=hm
    replace hm:=oB hm;obtain ⟨b0,h5,hm⟩:=hm
    refine .reg (eC 5 (keep (hT 2 [(oC [zI z1,zI z2,zI z3,Sl.v 1 s5])]) (bb (an (Nat.blt k1 (Sl.n s5)) true) (some (Cv (k1 * 1) (Sl.cs s5))) none)) (AX h2) (eD (keep (hT 2 [(oC [zI z1,zI z2,zI z3,Sl.v 1 s5])]) (AL (Sl.cs s5) (k1 * 1))) (AZ h3) (eC 1 (EK tabs [[none,none,none,some 1],[some 1],[none]] 3 [] [] (pu 10480) [(.agg ⟨[zI z1,zI z2,zI z3,Sl.v 1 s5]⟩),Sl.v 1 s3,zI x3] (hT 2 [(oC [zI z1,zI z2,zI z3,Sl.v 1 s5])])) (EL (as:=[(.agg ⟨[zI z1,zI z2,zI z3,Sl.v 1 s5]⟩),Sl.v 1 s3,zI x3]) (H1:=(hT 2 [(oC [zI z1,zI z2,zI z3,Sl.v 1 s5])])) (BS (Ot (Da Dk (Da Dk (Da Dk (Da (KQ (CV (z:=1) (v:=(Sl.v 1 s5)) (H:=(hT 2 [(oC [zI z1,zI z2,zI z3,Sl.v 1 s5])])) (by kernel_rfl) (by kernel_rfl) (by kernel_rfl))) Oq))))) (BS (Dm (KQ (CV (z:=1) (v:=(Sl.v 1 s3)) (H:=(hT 2 [(oC [zI z1,zI z2,zI z3,Sl.v 1 s5])])) (by kernel_rfl) (by kernel_rfl) (by kernel_rfl)))) (BS (Dm Dk) Gj))) (EI (H2:=(hT 2 [(oC [zI z1,zI z2,zI z3,Sl.v 1 s5])])) (v:=(Sl.v 1 s9)) (v':=(Sl.v 1 s9)) [some 0] [] [] [(.agg ⟨[zI z1,zI z2,zI z3,Sl.v 1 s5]⟩),Sl.v 1 s3,zI x3] [] [] [some 0,none] [] [] (by kernel_rfl) BX (Eq.trans (by kernel_rfl) h4) BX BX)) (eD ((oo (pu 54 [Sl.v 1 s9,Sl.v 1 s4]) none fun v=>some (v,(hT 2 [(oC [zI z1,zI z2,zI z3,Sl.v 1 s5])])))) (AB h5) (eE))))) ?_
    refine .ghs (fr 36 [(1,Sl.v 1 s3),(2,pt 1 0),(5,Sl.v 1 s4),(6,(zI (Int.ofNat k1))),(24,zB b0)]) (hT 2 [(oC [zI z1,zI z2,zI z3,Sl.v 1 s5])]) (.k0 [false] [.tmp 2 false] [1,2,5,6,24]) ?_
    replace hm:=Ag hm;rcases hm with ⟨h6,hm⟩ | ⟨h6,hm⟩
    ·refine .ifT b0 (by kernel_rfl) h6 ?_
     replace hm:=Ae hm;obtain ⟨h7,hm⟩:=hm
     replace hm:=oI hm;obtain ⟨x4,h8,hm⟩:=hm
     replace hm:=Ab hm;obtain ⟨v6,h9,hm⟩:=hm
     replace hm:=Ch hm;obtain ⟨l2,rfl,hm⟩:=hm
     replace hm:=Ad hm;obtain ⟨v7,l13804_0,rfl,hm⟩:=hm
     replace hm:=AC hm;obtain ⟨rfl,hm⟩:=hm
     replace hm:=Al hm;obtain ⟨s10,rfl,hm⟩:=hm
     refine .reg (eC 5 (keep (hT 2 [(oC [zI z1,zI z2,zI z3,Sl.v 1 s5])]) (bb (an (Nat.blt k1 (Sl.n s5)) true) (some (Cv (k1 * 1) (Sl.cs s5))) none)) (AX h7) (eD (keep (hT 2 [(oC [zI z1,zI z2,zI z3,Sl.v 1 s5])]) (AL (Sl.cs s5) (k1 * 1))) (AZ h8) (eD (EK tabs [[none,none,none,some 1],[some 1],[none]] 3 [] [] (pu 10480) [(.agg ⟨[zI z1,zI z2,zI z3,Sl.v 1 s5]⟩),Sl.v 1 s3,zI x4] (hT 2 [(oC [zI z1,zI z2,zI z3,Sl.v 1 s5])])) (EL (as:=[(.agg ⟨[zI z1,zI z2,zI z3,Sl.v 1 s5]⟩),Sl.v 1 s3,zI x4]) (H1:=(hT 2 [(oC [zI z1,zI z2,zI z3,Sl.v 1 s5])])) (BS (Ot (Da Dk (Da Dk (Da Dk (Da (KQ (CV (z:=1) (v:=(Sl.v 1 s5)) (H:=(hT 2 [(oC [zI z1,zI z2,zI z3,Sl.v 1 s5])])) (by kernel_rfl) (by kernel_rfl) (by kernel_rfl))) Oq))))) (BS (Dm (KQ (CV (z:=1) (v:=(Sl.v 1 s3)) (H:=(hT 2 [(oC [zI z1,zI z2,zI z3,Sl.v 1 s5])])) (by kernel_rfl) (by kernel_rfl) (by kernel_rfl)))) (BS (Dm Dk) Gj))) (EI (H2:=(hT 2 [(oC [zI z1,zI z2,zI z3,Sl.v 1 s5])])) (v:=(Sl.v 1 s10)) (v':=(Sl.v 1 s10)) [some 0] [] [] [(.agg ⟨[zI z1,zI z2,zI z3,Sl.v 1 s5]⟩),Sl.v 1 s3,zI x4] [] [] [some 0,none] [] [] (by kernel_rfl) BX (Eq.trans (by kernel_rfl) h9) BX BX)) (eE)))) ?_
     exact ⟨(s3,s10,(Int.ofNat k1),z1,z2,z3,s5),hm,(.k0 [false] [.tmp 2 false] [1,2,5,6])⟩
    ·refine .ifF b0 (by kernel_rfl) h6 ?_
     refine .skip ?_
     exact ⟨(s3,s4,(Int.ofNat k1),z1,z2,z3,s5),hm,(.k0 [false] [.tmp 2 false] [1,2,5,6])⟩
  ·refine Bq (AY z0 (Int.ofNat (Sl.n s5))) h0 ?_
   refine .exit ?_
   exact ⟨s4,hm,(.k0 [false] [] [5])⟩
end
end Go.BkYM
