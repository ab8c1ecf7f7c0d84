/- Made from wip. -/
import Derived.Test.YtokbaaeimejjlaaDoorBkMMod0x

set_option maxRecDepth 100000
set_option maxHeartbeats 20000000
set_option linter.unusedVariables false
namespace Go.BkMM
open Go.Sp Go.BkM
noncomputable section
def iV (pu:Af) (n n0 c0:Nat) (z0 z1 z2 z3 z4 z5:Int) (s0:Sl) (q0:LV):OV:=
 (bb (Au Ah q0) (bb (an (Nat.ble (0+n0*1) (len q0)) (Au Ah (Aq (n0*1) (Am 0 q0)))) (some (.tuple ⟨[(.agg ⟨[.int .i64 z3,.int .i64 z4,.int .i64 z5,Sl.v 1 s0]⟩),(Sl.v 1 (Sl.mk n0 0 (Aq (n0*1) (Am 0 q0))))]⟩)) none) none)
def Aat (pu:Af) (n:Nat) (ih0:Nat→Nat→Int→Int→LV→Int→Int→Int→Int→Int→Int→Sl→LV→OV) (n0 c0:Nat) (z0 z1:Int) (q0:LV) (z2 z3 z4 z5 z6 z7:Int) (s0:Sl) (q1:LV):OV:=
 (bb (Au Ah q0) (bb (Au Ah q1) (bb (AY z1 z0) (oo (EA z1) none fun k1=>(bb (Nat.blt k1 16) (oo (AL q0 (4+k1*1)) none fun v0=>(oo (Bi .u8 v0) none fun x0=>(bb (nt (Bd z7 (0:Int))) (bb (GV 1 8 n0 c0 1 q1) (bb (Au Ah (Br (Am 0 q1) [(.int .i64 (Int.tmod (Aj .i64 x0) z7))])) (ih0 (n0+1) (2*(n0+1)+bb false 1 0) z0 (Aj .i64 (Int.add (Int.ofNat k1) (1:Int))) q0 z2 z3 z4 z5 z6 z7 s0 (Br (Am 0 q1) [(.int .i64 (Int.tmod (Aj .i64 x0) z7))])) none) none) none))) none)) (iV pu n n0 c0 z2 z3 z4 z5 z6 z7 s0 q1)) none) none)
def UX (pu:Af) (n w:Nat):Nat→Nat→Int→Int→LV→Int→Int→Int→Int→Int→Int→Sl→LV→OV:=
 Nat.rec (motive:=fun _=>Nat→Nat→Int→Int→LV→Int→Int→Int→Int→Int→Int→Sl→LV→OV) (fun _ _ _ _ _ _ _ _ _ _ _ _ _=>none) (fun _ ih0=>Aat pu n ih0) w
def QJ (pu:Af) (n n0 c0:Nat) (z0:Int) (q0:LV) (z1 z2 z3 z4 z5 z6:Int) (q1:LV):OV:=
 (oo (AL q0 3) none fun v0=>(oo (Bi .u8 v0) none fun x0=>(bb (nt (Bd z0 (0:Int))) (oo (EA (Int.tmod (Aj .i64 x0) z0)) none fun k1=>(bb (an (Nat.blt k1 n0) true) (oo (AL q1 (0+k1*1)) none fun v1=>(oo (Bj 1 v1) none fun s0=>(bb (Au Ah q0) (UX pu n n 0 0 (Aj .i64 (Int.mul z4 z5)) (0:Int) q0 z1 z2 z3 z4 z5 z6 s0 ([]:LV)) none))) none)) none)))
def m9_ (pu:Af) (n:Nat) (q0:LV) (x0 x1:Int):OV:=
 (bb (Au Ah q0) (oo (AL q0 0) none fun v0=>(oo (Bi .u8 v0) none fun x2=>(bb (nt (Bd x0 (0:Int))) (oo (AL q0 1) none fun v1=>(oo (Bi .u8 v1) none fun x3=>(bb (nt (Bd x0 (0:Int))) (oo (AL q0 2) none fun v2=>(oo (Bi .u8 v2) none fun x4=>(bb (nt (Bd x1 (0:Int))) (bb (Bd (Aj .i64 (Int.add (1:Int) (Int.tmod (Aj .i64 x2) x0))) (Aj .i64 (Int.add (1:Int) (Int.tmod (Aj .i64 x3) x0)))) (QJ pu n 10 21 (10:Int) q0 (0:Int) (0:Int) (0:Int) (Aj .i64 (Int.add (1:Int) (Int.tmod (Aj .i64 x2) x0))) (Aj .i64 (Int.add (1:Int) (Int.tmod (Aj .i64 x3) x0))) (Aj .i64 (Int.add (1:Int) (Int.tmod (Aj .i64 x4) x1))) ([(Sl.v 1 (Sl.mk 1 0 (Aq (1*1) (Am 0 ([(.int .i64 (0:Int))]:LV))))),(Sl.v 1 (Sl.mk 2 0 (Aq (2*1) (Am 0 ([(.int .i64 (0:Int)),(.int .i64 (2:Int))]:LV))))),(Sl.v 1 (Sl.mk 2 0 (Aq (2*1) (Am 0 ([(.int .i64 (0:Int)),(.int .i64 (4:Int))]:LV))))),(Sl.v 1 (Sl.mk 2 0 (Aq (2*1) (Am 0 ([(.int .i64 (0:Int)),(.int .i64 (5:Int))]:LV))))),(Sl.v 1 (Sl.mk 4 0 (Aq (4*1) (Am 0 ([(.int .i64 (0:Int)),(.int .i64 (2:Int)),(.int .i64 (4:Int)),(.int .i64 (5:Int))]:LV))))),(Sl.v 1 (Sl.mk 4 0 (Aq (4*1) (Am 0 ([(.int .i64 (0:Int)),(.int .i64 (1:Int)),(.int .i64 (2:Int)),(.int .i64 (3:Int))]:LV))))),(Sl.v 1 (Sl.mk 2 0 (Aq (2*1) (Am 0 ([(.int .i64 (0:Int)),(.int .i64 (6:Int))]:LV))))),(Sl.v 1 (Sl.mk 2 0 (Aq (2*1) (Am 0 ([(.int .i64 (0:Int)),(.int .i64 (7:Int))]:LV))))),(Sl.v 1 (Sl.mk 4 0 (Aq (4*1) (Am 0 ([(.int .i64 (0:Int)),(.int .i64 (2:Int)),(.int .i64 (6:Int)),(.int .i64 (7:Int))]:LV))))),(Sl.v 1 (Sl.mk 8 0 (Aq (8*1) (Am 0 ([(.int .i64 (0:Int)),(.int .i64 (1:Int)),(.int .i64 (2:Int)),(.int .i64 (3:Int)),(.int .i64 (4:Int)),(.int .i64 (5:Int)),(.int .i64 (6:Int)),(.int .i64 (7:Int))]:LV)))))]:LV)) (QJ pu n 10 21 (5:Int) q0 (0:Int) (0:Int) (0:Int) (Aj .i64 (Int.add (1:Int) (Int.tmod (Aj .i64 x2) x0))) (Aj .i64 (Int.add (1:Int) (Int.tmod (Aj .i64 x3) x0))) (Aj .i64 (Int.add (1:Int) (Int.tmod (Aj .i64 x4) x1))) ([(Sl.v 1 (Sl.mk 1 0 (Aq (1*1) (Am 0 ([(.int .i64 (0:Int))]:LV))))),(Sl.v 1 (Sl.mk 2 0 (Aq (2*1) (Am 0 ([(.int .i64 (0:Int)),(.int .i64 (2:Int))]:LV))))),(Sl.v 1 (Sl.mk 2 0 (Aq (2*1) (Am 0 ([(.int .i64 (0:Int)),(.int .i64 (4:Int))]:LV))))),(Sl.v 1 (Sl.mk 2 0 (Aq (2*1) (Am 0 ([(.int .i64 (0:Int)),(.int .i64 (5:Int))]:LV))))),(Sl.v 1 (Sl.mk 4 0 (Aq (4*1) (Am 0 ([(.int .i64 (0:Int)),(.int .i64 (2:Int)),(.int .i64 (4:Int)),(.int .i64 (5:Int))]:LV))))),(Sl.v 1 (Sl.mk 4 0 (Aq (4*1) (Am 0 ([(.int .i64 (0:Int)),(.int .i64 (1:Int)),(.int .i64 (2:Int)),(.int .i64 (3:Int))]:LV))))),(Sl.v 1 (Sl.mk 2 0 (Aq (2*1) (Am 0 ([(.int .i64 (0:Int)),(.int .i64 (6:Int))]:LV))))),(Sl.v 1 (Sl.mk 2 0 (Aq (2*1) (Am 0 ([(.int .i64 (0:Int)),(.int .i64 (7:Int))]:LV))))),(Sl.v 1 (Sl.mk 4 0 (Aq (4*1) (Am 0 ([(.int .i64 (0:Int)),(.int .i64 (2:Int)),(.int .i64 (6:Int)),(.int .i64 (7:Int))]:LV))))),(Sl.v 1 (Sl.mk 8 0 (Aq (8*1) (Am 0 ([(.int .i64 (0:Int)),(.int .i64 (1:Int)),(.int .i64 (2:Int)),(.int .i64 (3:Int)),(.int .i64 (4:Int)),(.int .i64 (5:Int)),(.int .i64 (6:Int)),(.int .i64 (7:Int))]:LV)))))]:LV))) none))) none))) none))) none)
def m9 (pu:Af) (n:Nat) (args:LV):OV:=
 (ll args none fun a0 args=>(ll args none fun a1 args=>(ll args none fun a2 args=>(ll args (oo (Bt a0) none fun q0=>(bb (an (Nat.beq (len q0) 20) (Au Ah q0)) (oo (Bi .i64 a1) none fun x0=>(oo (Bi .i64 a2) none fun x1=>(m9_ pu n q0 x0 x1))) none)) fun _ _=>none))))
theorem AiI (pu:Af) (n n0 c0:Nat) (z0 z1 z2 z3 z4 z5:Int) (s0:Sl) (q0:LV) {v:Value} (hm:iV pu n n0 c0 z0 z1 z2 z3 z4 z5 s0 q0=some v):BN tt (Bb tabs isP pu (inl pu)) 1 mE (fr 79 [(6,pt 1 0),(8,(pt 2 0)),(11,sc 3 0 1 n0 c0)]) (hT 4 [(oC [zI z0,zI z1,zI z2,(.slice none 0 0)]),(oC [zI z3,zI z4,zI z5,Sl.v 1 s0]),oC q0]) (Fin tt 1 [.cell 6 27,.tmp 7] v):=by
 unfold iV at hm
 refine .then (.rK ?_)
 replace hm:=Ae hm;obtain⟨h0,hm⟩:=hm
 refine .ghs (fr 79 [(6,pt 1 0),(7,sc 2 0 1 n0 c0)]) (hT 3 [(oC [zI z3,zI z4,zI z5,Sl.v 1 s0]),oC q0]) (.k [3] [false] [.tmp 6 false,.tmp 7 false] [6,7] ⟨Bq h0,trivial⟩) ?_
 replace hm:=Ae hm;obtain⟨h1,hm⟩:=hm
 refine .ghs (Fr.puts (fr 79 [(6,pt 1 0),(7,sc 2 0 1 n0 c0)]) [(7,(Sl.v 1 (Sl.mk n0 0 (Aq (n0*1) (Am 0 q0)))))]) (hT 3 [(oC [zI z3,zI z4,zI z5,Sl.v 1 s0]),.dead]) (.freezeC 1 7 1 (an (Nat.ble (0+n0*1) (len q0)) (Au Ah (Aq (n0*1) (Am 0 q0)))) (F1:=(Fr.puts (fr 79 [(6,pt 1 0),(7,sc 2 0 1 n0 c0)]) [(7,(Sl.v 1 (Sl.mk n0 0 (Aq (n0*1) (Am 0 q0)))))])) (H1:=(hT 3 [(oC [zI z3,zI z4,zI z5,Sl.v 1 s0]),.dead])) (by kernel_rfl) (by kernel_rfl) h1 (E9.id _ _)) ?_
 refine .ret ?_
 exact AO (.tuple ⟨[(.agg ⟨[zI z3,zI z4,zI z5,Sl.v 1 s0]⟩),(Sl.v 1 (Sl.mk n0 0 (Aq (n0*1) (Am 0 q0))))]⟩) hm
theorem AiJ (pu:Af) (n n0 c0:Nat) (z0:Int) (q0:LV) (z1 z2 z3 z4 z5 z6:Int) (q1:LV) {v:Value} (hm:QJ pu n n0 c0 z0 q0 z1 z2 z3 z4 z5 z6 q1=some v):BN tt (Bb tabs isP pu (inl pu)) 1 mF (fr 79 [(3,pt 1 0),(6,(pt 2 0)),(8,(pt 3 0)),(9,sc 4 0 1 n0 c0),(10,zI z0)]) (hT 5 [oC q0,(oC [zI z1,zI z2,zI z3,(.slice none 0 0)]),(oC [zI z4,zI z5,zI z6,(.slice none 0 0)]),oC q1]) (Fin tt 1 [.cell 6 27,.tmp 7] v):=by
 unfold QJ at hm
 refine .then ?_
 replace hm:=G9 hm;obtain⟨x0,h0,hm⟩:=hm
 replace hm:=Ae hm;obtain⟨h1,hm⟩:=hm
 replace hm:=Ab hm;obtain⟨k1,h2,hm⟩:=hm
 replace hm:=Ae hm;obtain⟨h3,hm⟩:=hm
 replace hm:=LK hm;obtain⟨s0,h4,hm⟩:=hm
 refine .reg (eC 2 (keep (hT 5 [oC q0,(oC [zI z1,zI z2,zI z3,(.slice none 0 0)]),(oC [zI z4,zI z5,zI z6,(.slice none 0 0)]),oC q1]) (AL q0 3)) (AZ h0) (eC 2 (keep (hT 5 [oC q0,(oC [zI z1,zI z2,zI z3,(.slice none 0 0)]),(oC [zI z4,zI z5,zI z6,(.slice none 0 0)]),oC q1]) (bb (Bd z0 (0:Int)) none (some (zI (Int.tmod (Aj .i64 x0) z0))))) (show _=some ((zI (Int.ofNat k1)),_) from (nat_eq (X:=(Int.tmod (Aj .i64 x0) z0)) (XH h1) h2)) (eD (keep (hT 5 [oC q0,(oC [zI z1,zI z2,zI z3,(.slice none 0 0)]),(oC [zI z4,zI z5,zI z6,(.slice none 0 0)]),oC q1]) (bb (an (Nat.blt k1 n0) true) (some (.pointer (some ⟨4,(0+k1*1),none⟩))) none)) (AX h3) (eD (keep (hT 5 [oC q0,(oC [zI z1,zI z2,zI z3,(.slice none 0 0)]),(oC [zI z4,zI z5,zI z6,(.slice none 0 0)]),oC q1]) (AL q1 (0+k1*1))) (AZ h4) (eE))))) ?_
 replace hm:=Ae hm;obtain⟨h5,hm⟩:=hm
 refine .ghs (fr 79 [(3,pt 1 0),(6,(pt 2 0)),(8,(pt 3 0))]) (hT 4 [oC q0,(oC [zI z1,zI z2,zI z3,(.slice none 0 0)]),(oC [zI z4,zI z5,zI z6,Sl.v 1 s0])]) (.k [1] [false] [.tmp 3 false,.tmp 6 false,.tmp 8 false] [3,6,8] ⟨Bq h5,trivial⟩) ?_
 refine .then (.rK (.ghs (fr 79 [(3,pt 1 0),(6,(pt 2 0)),(8,(pt 3 0)),(11,(.slice none 0 0))]) (hT 4 [oC q0,(oC [zI z1,zI z2,zI z3,(.slice none 0 0)]),(oC [zI z4,zI z5,zI z6,Sl.v 1 s0])]) (.k [1] [false] [.tmp 3 false,.tmp 6 false,.tmp 8 false] [3,6,8,11] ⟨Bq h5,trivial⟩) ?_))
 refine .join (v:=v) (fun y:Nat×Nat×Int×Int×Int×Int×Int×Int×Sl×LV=>((fr 79 [(6,pt 1 0),(8,(pt 2 0)),(11,(sc 3 0 1 y.1 y.2.1))]),(hT 4 [(oC [(zI y.2.2.1),(zI y.2.2.2.1),(zI y.2.2.2.2.1),(.slice none 0 0)]),(oC [(zI y.2.2.2.2.2.1),(zI y.2.2.2.2.2.2.1),(zI y.2.2.2.2.2.2.2.1),(Sl.v 1 y.2.2.2.2.2.2.2.2.1)]),(oC y.2.2.2.2.2.2.2.2.2)]))) (fun y=>iV pu n y.1 y.2.1 y.2.2.1 y.2.2.2.1 y.2.2.2.2.1 y.2.2.2.2.2.1 y.2.2.2.2.2.2.1 y.2.2.2.2.2.2.2.1 y.2.2.2.2.2.2.2.2.1 y.2.2.2.2.2.2.2.2.2) ?_ ?_
 ·rintro⟨n1,c1,z7,z8,z9,z10,z11,z12,s1,q2⟩ hm
  exact AiI pu n n1 c1 z7 z8 z9 z10 z11 z12 s1 q2 hm
 ·refine .then (.rK (.ghs (fr 79 [(3,pt 1 0),(6,(pt 2 0)),(8,(pt 3 0)),(11,(.slice none 0 0)),(61,(zI (Aj .i64 (Int.mul z4 z5)))),(62,(zI (0:Int)))]) (hT 4 [oC q0,(oC [zI z1,zI z2,zI z3,(.slice none 0 0)]),(oC [zI z4,zI z5,zI z6,Sl.v 1 s0])]) (.k [1] [false] [.tmp 3 false,.tmp 6 false,.tmp 8 false] [3,6,8,11,61,62] ⟨Bq h5,trivial⟩) ?_))
  refine .block (.loopM (v:=v) (fun y:Nat×Nat×Int×Int×LV×Int×Int×Int×Int×Int×Int×Sl×LV=>((fr 79 [(3,pt 1 0),(6,(pt 2 0)),(8,(pt 3 0)),(11,(sc 4 0 1 y.1 y.2.1)),(61,(zI y.2.2.1)),(62,(zI y.2.2.2.1))]),(hT 5 [(oC y.2.2.2.2.1),(oC [(zI y.2.2.2.2.2.1),(zI y.2.2.2.2.2.2.1),(zI y.2.2.2.2.2.2.2.1),(.slice none 0 0)]),(oC [(zI y.2.2.2.2.2.2.2.2.1),(zI y.2.2.2.2.2.2.2.2.2.1),(zI y.2.2.2.2.2.2.2.2.2.2.1),(Sl.v 1 y.2.2.2.2.2.2.2.2.2.2.2.1)]),(oC y.2.2.2.2.2.2.2.2.2.2.2.2)]))) (fun w y=>UX pu n w y.1 y.2.1 y.2.2.1 y.2.2.2.1 y.2.2.2.2.1 y.2.2.2.2.2.1 y.2.2.2.2.2.2.1 y.2.2.2.2.2.2.2.1 y.2.2.2.2.2.2.2.2.1 y.2.2.2.2.2.2.2.2.2.1 y.2.2.2.2.2.2.2.2.2.2.1 y.2.2.2.2.2.2.2.2.2.2.2.1 y.2.2.2.2.2.2.2.2.2.2.2.2) n ⟨(0,0,(Aj .i64 (Int.mul z4 z5)),(0:Int),q0,z1,z2,z3,z4,z5,z6,s0,([]:LV)),hm,(.thaw 11 1 (by kernel_rfl) (.k [1] [false] [.tmp 3 false,.tmp 6 false,.tmp 8 false,.tmp 11 false] [3,6,8,11,61,62] ⟨Bq h5,trivial⟩))⟩ (fun _=>rfl) ?_)
  rintro w0 ⟨n2,c2,z13,z14,q3,z15,z16,z17,z18,z19,z20,s2,q4⟩ hm
  replace hm:Aat pu n (UX pu n w0) n2 c2 z13 z14 q3 z15 z16 z17 z18 z19 z20 s2 q4=some v:=hm
  unfold Aat at hm
  refine .then (.rK ?_)
  replace hm:=Ae hm;obtain⟨h6,hm⟩:=hm
  replace hm:=Ae hm;obtain⟨h7,hm⟩:=hm
  refine .ghs (fr 79 [(3,pt 1 0),(6,(pt 2 0)),(8,(pt 3 0)),(11,sc 4 0 1 n2 c2),(61,zI z13),(62,zI z14),(63,(zB (AY z14 z13)))]) (hT 5 [oC q3,(oC [zI z15,zI z16,zI z17,(.slice none 0 0)]),(oC [zI z18,zI z19,zI z20,Sl.v 1 s2]),oC q4]) (.k [1,4] [false] [.tmp 3 false,.tmp 6 false,.tmp 8 false,.tmp 11 false] [3,6,8,11,61,62,63] ⟨Bq h6,Bq h7,trivial⟩) ?_
  refine .then ?_
  replace hm:=Ag hm;rcases hm with⟨h8,hm⟩ | ⟨h8,hm⟩
  ·refine BB (AY z14 z13) h8 ?_
   refine .skip (.ghs (fr 79 [(3,pt 1 0),(6,(pt 2 0)),(8,(pt 3 0)),(11,sc 4 0 1 n2 c2),(61,zI z13),(62,zI z14)]) (hT 5 [oC q3,(oC [zI z15,zI z16,zI z17,(.slice none 0 0)]),(oC [zI z18,zI z19,zI z20,Sl.v 1 s2]),oC q4]) (.k [1,4] [false] [.tmp 3 false,.tmp 6 false,.tmp 8 false,.tmp 11 false] [3,6,8,11,61,62] ⟨Bq h6,Bq h7,trivial⟩) ?_)
   refine .then (.block (.then (.rK (.ghs (fr 79 [(3,pt 1 0),(6,(pt 2 0)),(8,(pt 3 0)),(11,sc 4 0 1 n2 c2),(12,zI z14),(61,zI z13),(62,zI z14)]) (hT 5 [oC q3,(oC [zI z15,zI z16,zI z17,(.slice none 0 0)]),(oC [zI z18,zI z19,zI z20,Sl.v 1 s2]),oC q4]) (.k [1,4] [false] [.tmp 3 false,.tmp 6 false,.tmp 8 false,.tmp 11 false] [3,6,8,11,12,61,62] ⟨Bq h6,Bq h7,trivial⟩) ?_))))
   replace hm:=Ab hm;obtain⟨k2,h9,hm⟩:=hm
   obtain rfl:=AR h9
   replace hm:=Ae hm;obtain⟨h10,hm⟩:=hm
   replace hm:=G9 hm;obtain⟨x1,h11,hm⟩:=hm
   replace hm:=Ae hm;obtain⟨h12,hm⟩:=hm
   replace hm:=Ae hm;obtain⟨h13,hm⟩:=hm
   refine .reg (eC 3 (keep (hT 5 [oC q3,(oC [zI z15,zI z16,zI z17,(.slice none 0 0)]),(oC [zI z18,zI z19,zI z20,Sl.v 1 s2]),oC q4]) (bb (Nat.blt k2 16) (some (.pointer (some ⟨1,(4+k2*1),none⟩))) none)) (AX h10) (eD (keep (hT 5 [oC q3,(oC [zI z15,zI z16,zI z17,(.slice none 0 0)]),(oC [zI z18,zI z19,zI z20,Sl.v 1 s2]),oC q4]) (AL q3 (4+k2*1))) (AZ h11) (eC 3 (keep (hT 5 [oC q3,(oC [zI z15,zI z16,zI z17,(.slice none 0 0)]),(oC [zI z18,zI z19,zI z20,Sl.v 1 s2]),oC q4]) (bb (Bd z20 (0:Int)) none (some (zI (Int.tmod (Aj .i64 x1) z20))))) (XH h12) (eC 1 (Oc 1 8 n2 c2 1 4 q4 [(zI (Int.tmod (Aj .i64 x1) z20))] [] (hT 6 [oC q3,(oC [zI z15,zI z16,zI z17,(.slice none 0 0)]),(oC [zI z18,zI z19,zI z20,Sl.v 1 s2]),oC q4,(oC [(zI (Int.tmod (Aj .i64 x1) z20))])])) (I1 h13) (eE))))) ?_
   replace hm:=Ae hm;obtain⟨h14,hm⟩:=hm
   refine .ghs (fr 79 [(3,pt 1 0),(6,(pt 2 0)),(8,(pt 3 0)),(11,(sc 4 0 1 (n2+1) (d2 (n2+1)))),(61,zI z13),(62,(zI (Int.ofNat k2)))]) (hT 5 [oC q3,(oC [zI z15,zI z16,zI z17,(.slice none 0 0)]),(oC [zI z18,zI z19,zI z20,Sl.v 1 s2]),(oC (Br (Am 0 q4) [(zI (Int.tmod (Aj .i64 x1) z20))]))]) (.k [1,6] [false] [.tmp 3 false,.tmp 6 false,.tmp 8 false,.tmp 11 false] [3,6,8,11,61,62] ⟨Bq h6,Bq h14,trivial⟩) ?_
   refine .rK ?_
   exact⟨((n2+1),(d2 (n2+1)),z13,(Aj .i64 (Int.add (Int.ofNat k2) (1:Int))),q3,z15,z16,z17,z18,z19,z20,s2,(Br (Am 0 q4) [(zI (Int.tmod (Aj .i64 x1) z20))])),hm,(.k [1,4] [false] [.tmp 3 false,.tmp 6 false,.tmp 8 false,.tmp 11 false] [3,6,8,11,61,62] ⟨Bq h6,Bq h14,trivial⟩)⟩
  ·refine BI (AY z14 z13) h8 ?_
   refine .exit ?_
   exact⟨(n2,c2,z15,z16,z17,z18,z19,z20,s2,q4),hm,(.k [4] [false] [.tmp 6 false,.tmp 8 false,.tmp 11 false] [6,8,11] ⟨Bq h7,trivial⟩)⟩
theorem r9 {call:A8} (pu:Af) (n:Nat) (hcall:call=Bb tabs isP pu (inl pu)) {args:LV} {v:Value} (hm:m9 pu n args=some v) (_:∀ x∈args,closed2 x=true):args.length≤79∧BN tt call 1 Xf (Fr.made 79 args) (Ao tabs) (Fin tt 1 [.cell 6 27,.tmp 7] v):=by
 subst hcall
 unfold m9 at hm
 replace hm:=Ad hm;obtain⟨a0,args_0,rfl,hm⟩:=hm
 replace hm:=Ad hm;obtain⟨a1,args_1,rfl,hm⟩:=hm
 replace hm:=Ad hm;obtain⟨a2,args_2,rfl,hm⟩:=hm
 replace hm:=AC hm;obtain⟨rfl,hm⟩:=hm
 replace hm:=BG hm;obtain⟨q0,rfl,hm⟩:=hm
 replace hm:=Ae hm;obtain⟨h0,hm⟩:=hm
 replace hm:=Ai hm;obtain⟨x0,rfl,hm⟩:=hm
 replace hm:=Ai hm;obtain⟨x1,rfl,hm⟩:=hm
 unfold m9_ at hm
 refine⟨by simp,?_⟩
 refine .same (F':=(fr 79 [(0,(.agg ⟨q0⟩)),(1,zI x0),(2,zI x1)])) (H':=Ay) (by kernel_rfl) (by kernel_rfl) ?_
 refine .then (.rK ?_)
 replace hm:=Ae hm;obtain⟨h1,hm⟩:=hm
 refine .ghs (fr 79 [(1,zI x0),(2,zI x1),(3,pt 1 0),(6,(pt 2 0))]) (hT 3 [oC q0,(oC [(zI (0:Int)),(zI (0:Int)),(zI (0:Int)),(.slice none 0 0)])]) (.k [1] [false] [.tmp 3 false,.tmp 6 false] [1,2,3,6] ⟨Bq h1,trivial⟩) ?_
 refine .then ?_
 replace hm:=G9 hm;obtain⟨x2,h2,hm⟩:=hm
 replace hm:=Ae hm;obtain⟨h3,hm⟩:=hm
 replace hm:=G9 hm;obtain⟨x3,h4,hm⟩:=hm
 replace hm:=Ae hm;obtain⟨h5,hm⟩:=hm
 replace hm:=G9 hm;obtain⟨x4,h6,hm⟩:=hm
 replace hm:=Ae hm;obtain⟨h7,hm⟩:=hm
 refine .reg (eN 8 (Fr.puts (fr 79 [(1,zI x0),(2,zI x1),(3,pt 1 0),(6,(pt 2 0))]) [(13,pt 1 0),(14,(zY x2)),(15,(zI (Aj .i64 x2))),(16,zI x0),(17,(zI (Int.tmod (Aj .i64 x2) x0))),(18,(zI (Aj .i64 (Int.add (1:Int) (Int.tmod (Aj .i64 x2) x0))))),(19,pt 1 1),(20,(zY x3))]) (hT 3 [oC q0,(oC [(zI (0:Int)),(zI (0:Int)),(zI (0:Int)),(.slice none 0 0)])]) (eC 1 (keep (hT 3 [oC q0,(oC [(zI (0:Int)),(zI (0:Int)),(zI (0:Int)),(.slice none 0 0)])]) (AL q0 0)) (AZ h2) (eC 2 (keep (hT 3 [oC q0,(oC [(zI (0:Int)),(zI (0:Int)),(zI (0:Int)),(.slice none 0 0)])]) (bb (Bd x0 (0:Int)) none (some (zI (Int.tmod (Aj .i64 x2) x0))))) (XH h3) (eC 2 (keep (hT 3 [oC q0,(oC [(zI (0:Int)),(zI (0:Int)),(zI (0:Int)),(.slice none 0 0)])]) (AL q0 1)) (AZ h4) (by kernel_rfl)))) (eC 2 (keep (hT 3 [oC q0,(oC [(zI (0:Int)),(zI (0:Int)),(zI (0:Int)),(.slice none 0 0)])]) (bb (Bd x0 (0:Int)) none (some (zI (Int.tmod (Aj .i64 x3) x0))))) (XH h5) (eC 2 (keep (hT 3 [oC q0,(oC [(zI (0:Int)),(zI (0:Int)),(zI (0:Int)),(.slice none 0 0)])]) (AL q0 2)) (AZ h6) (eC 2 (keep (hT 3 [oC q0,(oC [(zI (0:Int)),(zI (0:Int)),(zI (0:Int)),(.slice none 0 0)])]) (bb (Bd x1 (0:Int)) none (some (zI (Int.tmod (Aj .i64 x4) x1))))) (XH h7) (eE))))) ?_
 refine .ghs (fr 79 [(3,pt 1 0),(6,(pt 2 0)),(8,(pt 3 0))]) (hT 4 [oC q0,(oC [(zI (0:Int)),(zI (0:Int)),(zI (0:Int)),(.slice none 0 0)]),(oC [(zI (Aj .i64 (Int.add (1:Int) (Int.tmod (Aj .i64 x2) x0)))),(zI (Aj .i64 (Int.add (1:Int) (Int.tmod (Aj .i64 x3) x0)))),(zI (Aj .i64 (Int.add (1:Int) (Int.tmod (Aj .i64 x4) x1)))),(.slice none 0 0)])]) (.k [1] [false] [.tmp 3 false,.tmp 6 false,.tmp 8 false] [3,6,8] ⟨Bq h1,trivial⟩) ?_
 refine .then (.rG (NY.seg 10 (Fr.puts (fr 79 [(3,pt 1 0),(6,(pt 2 0)),(8,(pt 3 0))]) [(32,sc 4 0 1 1 3),(33,sc 5 0 1 2 5),(34,sc 6 0 1 2 5),(35,sc 7 0 1 2 5),(36,sc 8 0 1 4 9),(37,sc 9 0 1 4 9),(38,sc 10 0 1 2 5),(39,sc 11 0 1 2 5),(40,sc 12 0 1 4 9),(41,sc 13 0 1 8 17)]) (hT 14 [oC q0,(oC [(zI (0:Int)),(zI (0:Int)),(zI (0:Int)),(.slice none 0 0)]),(oC [(zI (Aj .i64 (Int.add (1:Int) (Int.tmod (Aj .i64 x2) x0)))),(zI (Aj .i64 (Int.add (1:Int) (Int.tmod (Aj .i64 x3) x0)))),(zI (Aj .i64 (Int.add (1:Int) (Int.tmod (Aj .i64 x4) x1)))),(.slice none 0 0)]),(oC [(zI (0:Int))]),(oC [(zI (0:Int)),(zI (2:Int))]),(oC [(zI (0:Int)),(zI (4:Int))]),(oC [(zI (0:Int)),(zI (5:Int))]),(oC [(zI (0:Int)),(zI (2:Int)),(zI (4:Int)),(zI (5:Int))]),(oC [(zI (0:Int)),(zI (1:Int)),(zI (2:Int)),(zI (3:Int))]),(oC [(zI (0:Int)),(zI (6:Int))]),(oC [(zI (0:Int)),(zI (7:Int))]),(oC [(zI (0:Int)),(zI (2:Int)),(zI (6:Int)),(zI (7:Int))]),(oC [(zI (0:Int)),(zI (1:Int)),(zI (2:Int)),(zI (3:Int)),(zI (4:Int)),(zI (5:Int)),(zI (6:Int)),(zI (7:Int))])]) (by kernel_rfl) (NY.ghs (Fr.puts (fr 79 [(3,pt 1 0),(6,(pt 2 0)),(8,(pt 3 0))]) [(33,sc 5 0 1 2 5),(34,sc 6 0 1 2 5),(35,sc 7 0 1 2 5),(36,sc 8 0 1 4 9),(37,sc 9 0 1 4 9),(38,sc 10 0 1 2 5),(39,sc 11 0 1 2 5),(40,sc 12 0 1 4 9),(41,sc 13 0 1 8 17),(32,(Sl.v 1 (Sl.mk 1 0 (Aq (1*1) (Am 0 ([(zI (0:Int))]:LV))))))]) (hT 14 [oC q0,(oC [(zI (0:Int)),(zI (0:Int)),(zI (0:Int)),(.slice none 0 0)]),(oC [(zI (Aj .i64 (Int.add (1:Int) (Int.tmod (Aj .i64 x2) x0)))),(zI (Aj .i64 (Int.add (1:Int) (Int.tmod (Aj .i64 x3) x0)))),(zI (Aj .i64 (Int.add (1:Int) (Int.tmod (Aj .i64 x4) x1)))),(.slice none 0 0)]),.dead,(oC [(zI (0:Int)),(zI (2:Int))]),(oC [(zI (0:Int)),(zI (4:Int))]),(oC [(zI (0:Int)),(zI (5:Int))]),(oC [(zI (0:Int)),(zI (2:Int)),(zI (4:Int)),(zI (5:Int))]),(oC [(zI (0:Int)),(zI (1:Int)),(zI (2:Int)),(zI (3:Int))]),(oC [(zI (0:Int)),(zI (6:Int))]),(oC [(zI (0:Int)),(zI (7:Int))]),(oC [(zI (0:Int)),(zI (2:Int)),(zI (6:Int)),(zI (7:Int))]),(oC [(zI (0:Int)),(zI (1:Int)),(zI (2:Int)),(zI (3:Int)),(zI (4:Int)),(zI (5:Int)),(zI (6:Int)),(zI (7:Int))])]) (.freeze 1 32 1 (by kernel_rfl) (by kernel_rfl) (E9.id _ _)) (NY.ghs (Fr.puts (fr 79 [(3,pt 1 0),(6,(pt 2 0)),(8,(pt 3 0))]) [(34,sc 6 0 1 2 5),(35,sc 7 0 1 2 5),(36,sc 8 0 1 4 9),(37,sc 9 0 1 4 9),(38,sc 10 0 1 2 5),(39,sc 11 0 1 2 5),(40,sc 12 0 1 4 9),(41,sc 13 0 1 8 17),(32,(Sl.v 1 (Sl.mk 1 0 (Aq (1*1) (Am 0 ([(zI (0:Int))]:LV)))))),(33,(Sl.v 1 (Sl.mk 2 0 (Aq (2*1) (Am 0 ([(zI (0:Int)),(zI (2:Int))]:LV))))))]) (hT 14 [oC q0,(oC [(zI (0:Int)),(zI (0:Int)),(zI (0:Int)),(.slice none 0 0)]),(oC [(zI (Aj .i64 (Int.add (1:Int) (Int.tmod (Aj .i64 x2) x0)))),(zI (Aj .i64 (Int.add (1:Int) (Int.tmod (Aj .i64 x3) x0)))),(zI (Aj .i64 (Int.add (1:Int) (Int.tmod (Aj .i64 x4) x1)))),(.slice none 0 0)]),.dead,.dead,(oC [(zI (0:Int)),(zI (4:Int))]),(oC [(zI (0:Int)),(zI (5:Int))]),(oC [(zI (0:Int)),(zI (2:Int)),(zI (4:Int)),(zI (5:Int))]),(oC [(zI (0:Int)),(zI (1:Int)),(zI (2:Int)),(zI (3:Int))]),(oC [(zI (0:Int)),(zI (6:Int))]),(oC [(zI (0:Int)),(zI (7:Int))]),(oC [(zI (0:Int)),(zI (2:Int)),(zI (6:Int)),(zI (7:Int))]),(oC [(zI (0:Int)),(zI (1:Int)),(zI (2:Int)),(zI (3:Int)),(zI (4:Int)),(zI (5:Int)),(zI (6:Int)),(zI (7:Int))])]) (.freeze 1 33 1 (by kernel_rfl) (by kernel_rfl) (E9.id _ _)) (NY.ghs (Fr.puts (fr 79 [(3,pt 1 0),(6,(pt 2 0)),(8,(pt 3 0))]) [(35,sc 7 0 1 2 5),(36,sc 8 0 1 4 9),(37,sc 9 0 1 4 9),(38,sc 10 0 1 2 5),(39,sc 11 0 1 2 5),(40,sc 12 0 1 4 9),(41,sc 13 0 1 8 17),(32,(Sl.v 1 (Sl.mk 1 0 (Aq (1*1) (Am 0 ([(zI (0:Int))]:LV)))))),(33,(Sl.v 1 (Sl.mk 2 0 (Aq (2*1) (Am 0 ([(zI (0:Int)),(zI (2:Int))]:LV)))))),(34,(Sl.v 1 (Sl.mk 2 0 (Aq (2*1) (Am 0 ([(zI (0:Int)),(zI (4:Int))]:LV))))))]) (hT 14 [oC q0,(oC [(zI (0:Int)),(zI (0:Int)),(zI (0:Int)),(.slice none 0 0)]),(oC [(zI (Aj .i64 (Int.add (1:Int) (Int.tmod (Aj .i64 x2) x0)))),(zI (Aj .i64 (Int.add (1:Int) (Int.tmod (Aj .i64 x3) x0)))),(zI (Aj .i64 (Int.add (1:Int) (Int.tmod (Aj .i64 x4) x1)))),(.slice none 0 0)]),.dead,.dead,.dead,(oC [(zI (0:Int)),(zI (5:Int))]),(oC [(zI (0:Int)),(zI (2:Int)),(zI (4:Int)),(zI (5:Int))]),(oC [(zI (0:Int)),(zI (1:Int)),(zI (2:Int)),(zI (3:Int))]),(oC [(zI (0:Int)),(zI (6:Int))]),(oC [(zI (0:Int)),(zI (7:Int))]),(oC [(zI (0:Int)),(zI (2:Int)),(zI (6:Int)),(zI (7:Int))]),(oC [(zI (0:Int)),(zI (1:Int)),(zI (2:Int)),(zI (3:Int)),(zI (4:Int)),(zI (5:Int)),(zI (6:Int)),(zI (7:Int))])]) (.freeze 1 34 1 (by kernel_rfl) (by kernel_rfl) (E9.id _ _)) (NY.ghs (Fr.puts (fr 79 [(3,pt 1 0),(6,(pt 2 0)),(8,(pt 3 0))]) [(36,sc 8 0 1 4 9),(37,sc 9 0 1 4 9),(38,sc 10 0 1 2 5),(39,sc 11 0 1 2 5),(40,sc 12 0 1 4 9),(41,sc 13 0 1 8 17),(32,(Sl.v 1 (Sl.mk 1 0 (Aq (1*1) (Am 0 ([(zI (0:Int))]:LV)))))),(33,(Sl.v 1 (Sl.mk 2 0 (Aq (2*1) (Am 0 ([(zI (0:Int)),(zI (2:Int))]:LV)))))),(34,(Sl.v 1 (Sl.mk 2 0 (Aq (2*1) (Am 0 ([(zI (0:Int)),(zI (4:Int))]:LV)))))),(35,(Sl.v 1 (Sl.mk 2 0 (Aq (2*1) (Am 0 ([(zI (0:Int)),(zI (5:Int))]:LV))))))]) (hT 14 [oC q0,(oC [(zI (0:Int)),(zI (0:Int)),(zI (0:Int)),(.slice none 0 0)]),(oC [(zI (Aj .i64 (Int.add (1:Int) (Int.tmod (Aj .i64 x2) x0)))),(zI (Aj .i64 (Int.add (1:Int) (Int.tmod (Aj .i64 x3) x0)))),(zI (Aj .i64 (Int.add (1:Int) (Int.tmod (Aj .i64 x4) x1)))),(.slice none 0 0)]),.dead,.dead,.dead,.dead,(oC [(zI (0:Int)),(zI (2:Int)),(zI (4:Int)),(zI (5:Int))]),(oC [(zI (0:Int)),(zI (1:Int)),(zI (2:Int)),(zI (3:Int))]),(oC [(zI (0:Int)),(zI (6:Int))]),(oC [(zI (0:Int)),(zI (7:Int))]),(oC [(zI (0:Int)),(zI (2:Int)),(zI (6:Int)),(zI (7:Int))]),(oC [(zI (0:Int)),(zI (1:Int)),(zI (2:Int)),(zI (3:Int)),(zI (4:Int)),(zI (5:Int)),(zI (6:Int)),(zI (7:Int))])]) (.freeze 1 35 1 (by kernel_rfl) (by kernel_rfl) (E9.id _ _)) (NY.ghs (Fr.puts (fr 79 [(3,pt 1 0),(6,(pt 2 0)),(8,(pt 3 0))]) [(37,sc 9 0 1 4 9),(38,sc 10 0 1 2 5),(39,sc 11 0 1 2 5),(40,sc 12 0 1 4 9),(41,sc 13 0 1 8 17),(32,(Sl.v 1 (Sl.mk 1 0 (Aq (1*1) (Am 0 ([(zI (0:Int))]:LV)))))),(33,(Sl.v 1 (Sl.mk 2 0 (Aq (2*1) (Am 0 ([(zI (0:Int)),(zI (2:Int))]:LV)))))),(34,(Sl.v 1 (Sl.mk 2 0 (Aq (2*1) (Am 0 ([(zI (0:Int)),(zI (4:Int))]:LV)))))),(35,(Sl.v 1 (Sl.mk 2 0 (Aq (2*1) (Am 0 ([(zI (0:Int)),(zI (5:Int))]:LV)))))),(36,(Sl.v 1 (Sl.mk 4 0 (Aq (4*1) (Am 0 ([(zI (0:Int)),(zI (2:Int)),(zI (4:Int)),(zI (5:Int))]:LV))))))]) (hT 14 [oC q0,(oC [(zI (0:Int)),(zI (0:Int)),(zI (0:Int)),(.slice none 0 0)]),(oC [(zI (Aj .i64 (Int.add (1:Int) (Int.tmod (Aj .i64 x2) x0)))),(zI (Aj .i64 (Int.add (1:Int) (Int.tmod (Aj .i64 x3) x0)))),(zI (Aj .i64 (Int.add (1:Int) (Int.tmod (Aj .i64 x4) x1)))),(.slice none 0 0)]),.dead,.dead,.dead,.dead,.dead,(oC [(zI (0:Int)),(zI (1:Int)),(zI (2:Int)),(zI (3:Int))]),(oC [(zI (0:Int)),(zI (6:Int))]),(oC [(zI (0:Int)),(zI (7:Int))]),(oC [(zI (0:Int)),(zI (2:Int)),(zI (6:Int)),(zI (7:Int))]),(oC [(zI (0:Int)),(zI (1:Int)),(zI (2:Int)),(zI (3:Int)),(zI (4:Int)),(zI (5:Int)),(zI (6:Int)),(zI (7:Int))])]) (.freeze 1 36 1 (by kernel_rfl) (by kernel_rfl) (E9.id _ _)) (NY.ghs (Fr.puts (fr 79 [(3,pt 1 0),(6,(pt 2 0)),(8,(pt 3 0))]) [(38,sc 10 0 1 2 5),(39,sc 11 0 1 2 5),(40,sc 12 0 1 4 9),(41,sc 13 0 1 8 17),(32,(Sl.v 1 (Sl.mk 1 0 (Aq (1*1) (Am 0 ([(zI (0:Int))]:LV)))))),(33,(Sl.v 1 (Sl.mk 2 0 (Aq (2*1) (Am 0 ([(zI (0:Int)),(zI (2:Int))]:LV)))))),(34,(Sl.v 1 (Sl.mk 2 0 (Aq (2*1) (Am 0 ([(zI (0:Int)),(zI (4:Int))]:LV)))))),(35,(Sl.v 1 (Sl.mk 2 0 (Aq (2*1) (Am 0 ([(zI (0:Int)),(zI (5:Int))]:LV)))))),(36,(Sl.v 1 (Sl.mk 4 0 (Aq (4*1) (Am 0 ([(zI (0:Int)),(zI (2:Int)),(zI (4:Int)),(zI (5:Int))]:LV)))))),(37,(Sl.v 1 (Sl.mk 4 0 (Aq (4*1) (Am 0 ([(zI (0:Int)),(zI (1:Int)),(zI (2:Int)),(zI (3:Int))]:LV))))))]) (hT 14 [oC q0,(oC [(zI (0:Int)),(zI (0:Int)),(zI (0:Int)),(.slice none 0 0)]),(oC [(zI (Aj .i64 (Int.add (1:Int) (Int.tmod (Aj .i64 x2) x0)))),(zI (Aj .i64 (Int.add (1:Int) (Int.tmod (Aj .i64 x3) x0)))),(zI (Aj .i64 (Int.add (1:Int) (Int.tmod (Aj .i64 x4) x1)))),(.slice none 0 0)]),.dead,.dead,.dead,.dead,.dead,.dead,(oC [(zI (0:Int)),(zI (6:Int))]),(oC [(zI (0:Int)),(zI (7:Int))]),(oC [(zI (0:Int)),(zI (2:Int)),(zI (6:Int)),(zI (7:Int))]),(oC [(zI (0:Int)),(zI (1:Int)),(zI (2:Int)),(zI (3:Int)),(zI (4:Int)),(zI (5:Int)),(zI (6:Int)),(zI (7:Int))])]) (.freeze 1 37 1 (by kernel_rfl) (by kernel_rfl) (E9.id _ _)) (NY.ghs (Fr.puts (fr 79 [(3,pt 1 0),(6,(pt 2 0)),(8,(pt 3 0))]) [(39,sc 11 0 1 2 5),(40,sc 12 0 1 4 9),(41,sc 13 0 1 8 17),(32,(Sl.v 1 (Sl.mk 1 0 (Aq (1*1) (Am 0 ([(zI (0:Int))]:LV)))))),(33,(Sl.v 1 (Sl.mk 2 0 (Aq (2*1) (Am 0 ([(zI (0:Int)),(zI (2:Int))]:LV)))))),(34,(Sl.v 1 (Sl.mk 2 0 (Aq (2*1) (Am 0 ([(zI (0:Int)),(zI (4:Int))]:LV)))))),(35,(Sl.v 1 (Sl.mk 2 0 (Aq (2*1) (Am 0 ([(zI (0:Int)),(zI (5:Int))]:LV)))))),(36,(Sl.v 1 (Sl.mk 4 0 (Aq (4*1) (Am 0 ([(zI (0:Int)),(zI (2:Int)),(zI (4:Int)),(zI (5:Int))]:LV)))))),(37,(Sl.v 1 (Sl.mk 4 0 (Aq (4*1) (Am 0 ([(zI (0:Int)),(zI (1:Int)),(zI (2:Int)),(zI (3:Int))]:LV)))))),(38,(Sl.v 1 (Sl.mk 2 0 (Aq (2*1) (Am 0 ([(zI (0:Int)),(zI (6:Int))]:LV))))))]) (hT 14 [oC q0,(oC [(zI (0:Int)),(zI (0:Int)),(zI (0:Int)),(.slice none 0 0)]),(oC [(zI (Aj .i64 (Int.add (1:Int) (Int.tmod (Aj .i64 x2) x0)))),(zI (Aj .i64 (Int.add (1:Int) (Int.tmod (Aj .i64 x3) x0)))),(zI (Aj .i64 (Int.add (1:Int) (Int.tmod (Aj .i64 x4) x1)))),(.slice none 0 0)]),.dead,.dead,.dead,.dead,.dead,.dead,.dead,(oC [(zI (0:Int)),(zI (7:Int))]),(oC [(zI (0:Int)),(zI (2:Int)),(zI (6:Int)),(zI (7:Int))]),(oC [(zI (0:Int)),(zI (1:Int)),(zI (2:Int)),(zI (3:Int)),(zI (4:Int)),(zI (5:Int)),(zI (6:Int)),(zI (7:Int))])]) (.freeze 1 38 1 (by kernel_rfl) (by kernel_rfl) (E9.id _ _)) (NY.ghs (Fr.puts (fr 79 [(3,pt 1 0),(6,(pt 2 0)),(8,(pt 3 0))]) [(40,sc 12 0 1 4 9),(41,sc 13 0 1 8 17),(32,(Sl.v 1 (Sl.mk 1 0 (Aq (1*1) (Am 0 ([(zI (0:Int))]:LV)))))),(33,(Sl.v 1 (Sl.mk 2 0 (Aq (2*1) (Am 0 ([(zI (0:Int)),(zI (2:Int))]:LV)))))),(34,(Sl.v 1 (Sl.mk 2 0 (Aq (2*1) (Am 0 ([(zI (0:Int)),(zI (4:Int))]:LV)))))),(35,(Sl.v 1 (Sl.mk 2 0 (Aq (2*1) (Am 0 ([(zI (0:Int)),(zI (5:Int))]:LV)))))),(36,(Sl.v 1 (Sl.mk 4 0 (Aq (4*1) (Am 0 ([(zI (0:Int)),(zI (2:Int)),(zI (4:Int)),(zI (5:Int))]:LV)))))),(37,(Sl.v 1 (Sl.mk 4 0 (Aq (4*1) (Am 0 ([(zI (0:Int)),(zI (1:Int)),(zI (2:Int)),(zI (3:Int))]:LV)))))),(38,(Sl.v 1 (Sl.mk 2 0 (Aq (2*1) (Am 0 ([(zI (0:Int)),(zI (6:Int))]:LV)))))),(39,(Sl.v 1 (Sl.mk 2 0 (Aq (2*1) (Am 0 ([(zI (0:Int)),(zI (7:Int))]:LV))))))]) (hT 14 [oC q0,(oC [(zI (0:Int)),(zI (0:Int)),(zI (0:Int)),(.slice none 0 0)]),(oC [(zI (Aj .i64 (Int.add (1:Int) (Int.tmod (Aj .i64 x2) x0)))),(zI (Aj .i64 (Int.add (1:Int) (Int.tmod (Aj .i64 x3) x0)))),(zI (Aj .i64 (Int.add (1:Int) (Int.tmod (Aj .i64 x4) x1)))),(.slice none 0 0)]),.dead,.dead,.dead,.dead,.dead,.dead,.dead,.dead,(oC [(zI (0:Int)),(zI (2:Int)),(zI (6:Int)),(zI (7:Int))]),(oC [(zI (0:Int)),(zI (1:Int)),(zI (2:Int)),(zI (3:Int)),(zI (4:Int)),(zI (5:Int)),(zI (6:Int)),(zI (7:Int))])]) (.freeze 1 39 1 (by kernel_rfl) (by kernel_rfl) (E9.id _ _)) (NY.ghs (Fr.puts (fr 79 [(3,pt 1 0),(6,(pt 2 0)),(8,(pt 3 0))]) [(41,sc 13 0 1 8 17),(32,(Sl.v 1 (Sl.mk 1 0 (Aq (1*1) (Am 0 ([(zI (0:Int))]:LV)))))),(33,(Sl.v 1 (Sl.mk 2 0 (Aq (2*1) (Am 0 ([(zI (0:Int)),(zI (2:Int))]:LV)))))),(34,(Sl.v 1 (Sl.mk 2 0 (Aq (2*1) (Am 0 ([(zI (0:Int)),(zI (4:Int))]:LV)))))),(35,(Sl.v 1 (Sl.mk 2 0 (Aq (2*1) (Am 0 ([(zI (0:Int)),(zI (5:Int))]:LV)))))),(36,(Sl.v 1 (Sl.mk 4 0 (Aq (4*1) (Am 0 ([(zI (0:Int)),(zI (2:Int)),(zI (4:Int)),(zI (5:Int))]:LV)))))),(37,(Sl.v 1 (Sl.mk 4 0 (Aq (4*1) (Am 0 ([(zI (0:Int)),(zI (1:Int)),(zI (2:Int)),(zI (3:Int))]:LV)))))),(38,(Sl.v 1 (Sl.mk 2 0 (Aq (2*1) (Am 0 ([(zI (0:Int)),(zI (6:Int))]:LV)))))),(39,(Sl.v 1 (Sl.mk 2 0 (Aq (2*1) (Am 0 ([(zI (0:Int)),(zI (7:Int))]:LV)))))),(40,(Sl.v 1 (Sl.mk 4 0 (Aq (4*1) (Am 0 ([(zI (0:Int)),(zI (2:Int)),(zI (6:Int)),(zI (7:Int))]:LV))))))]) (hT 14 [oC q0,(oC [(zI (0:Int)),(zI (0:Int)),(zI (0:Int)),(.slice none 0 0)]),(oC [(zI (Aj .i64 (Int.add (1:Int) (Int.tmod (Aj .i64 x2) x0)))),(zI (Aj .i64 (Int.add (1:Int) (Int.tmod (Aj .i64 x3) x0)))),(zI (Aj .i64 (Int.add (1:Int) (Int.tmod (Aj .i64 x4) x1)))),(.slice none 0 0)]),.dead,.dead,.dead,.dead,.dead,.dead,.dead,.dead,.dead,(oC [(zI (0:Int)),(zI (1:Int)),(zI (2:Int)),(zI (3:Int)),(zI (4:Int)),(zI (5:Int)),(zI (6:Int)),(zI (7:Int))])]) (.freeze 1 40 1 (by kernel_rfl) (by kernel_rfl) (E9.id _ _)) (NY.ghs (Fr.puts (fr 79 [(3,pt 1 0),(6,(pt 2 0)),(8,(pt 3 0))]) [(32,(Sl.v 1 (Sl.mk 1 0 (Aq (1*1) (Am 0 ([(zI (0:Int))]:LV)))))),(33,(Sl.v 1 (Sl.mk 2 0 (Aq (2*1) (Am 0 ([(zI (0:Int)),(zI (2:Int))]:LV)))))),(34,(Sl.v 1 (Sl.mk 2 0 (Aq (2*1) (Am 0 ([(zI (0:Int)),(zI (4:Int))]:LV)))))),(35,(Sl.v 1 (Sl.mk 2 0 (Aq (2*1) (Am 0 ([(zI (0:Int)),(zI (5:Int))]:LV)))))),(36,(Sl.v 1 (Sl.mk 4 0 (Aq (4*1) (Am 0 ([(zI (0:Int)),(zI (2:Int)),(zI (4:Int)),(zI (5:Int))]:LV)))))),(37,(Sl.v 1 (Sl.mk 4 0 (Aq (4*1) (Am 0 ([(zI (0:Int)),(zI (1:Int)),(zI (2:Int)),(zI (3:Int))]:LV)))))),(38,(Sl.v 1 (Sl.mk 2 0 (Aq (2*1) (Am 0 ([(zI (0:Int)),(zI (6:Int))]:LV)))))),(39,(Sl.v 1 (Sl.mk 2 0 (Aq (2*1) (Am 0 ([(zI (0:Int)),(zI (7:Int))]:LV)))))),(40,(Sl.v 1 (Sl.mk 4 0 (Aq (4*1) (Am 0 ([(zI (0:Int)),(zI (2:Int)),(zI (6:Int)),(zI (7:Int))]:LV)))))),(41,(Sl.v 1 (Sl.mk 8 0 (Aq (8*1) (Am 0 ([(zI (0:Int)),(zI (1:Int)),(zI (2:Int)),(zI (3:Int)),(zI (4:Int)),(zI (5:Int)),(zI (6:Int)),(zI (7:Int))]:LV))))))]) (hT 14 [oC q0,(oC [(zI (0:Int)),(zI (0:Int)),(zI (0:Int)),(.slice none 0 0)]),(oC [(zI (Aj .i64 (Int.add (1:Int) (Int.tmod (Aj .i64 x2) x0)))),(zI (Aj .i64 (Int.add (1:Int) (Int.tmod (Aj .i64 x3) x0)))),(zI (Aj .i64 (Int.add (1:Int) (Int.tmod (Aj .i64 x4) x1)))),(.slice none 0 0)]),.dead,.dead,.dead,.dead,.dead,.dead,.dead,.dead,.dead,.dead]) (.freeze 1 41 1 (by kernel_rfl) (by kernel_rfl) (E9.id _ _)) (NY.fin eE)))))))))))) ?_)
 refine .ghs (fr 79 [(3,pt 1 0),(6,(pt 2 0)),(8,(pt 3 0)),(9,sc 4 0 1 10 21)]) (hT 5 [oC q0,(oC [(zI (0:Int)),(zI (0:Int)),(zI (0:Int)),(.slice none 0 0)]),(oC [(zI (Aj .i64 (Int.add (1:Int) (Int.tmod (Aj .i64 x2) x0)))),(zI (Aj .i64 (Int.add (1:Int) (Int.tmod (Aj .i64 x3) x0)))),(zI (Aj .i64 (Int.add (1:Int) (Int.tmod (Aj .i64 x4) x1)))),(.slice none 0 0)]),(oC [(Sl.v 1 (Sl.mk 1 0 (Aq (1*1) (Am 0 ([(zI (0:Int))]:LV))))),(Sl.v 1 (Sl.mk 2 0 (Aq (2*1) (Am 0 ([(zI (0:Int)),(zI (2:Int))]:LV))))),(Sl.v 1 (Sl.mk 2 0 (Aq (2*1) (Am 0 ([(zI (0:Int)),(zI (4:Int))]:LV))))),(Sl.v 1 (Sl.mk 2 0 (Aq (2*1) (Am 0 ([(zI (0:Int)),(zI (5:Int))]:LV))))),(Sl.v 1 (Sl.mk 4 0 (Aq (4*1) (Am 0 ([(zI (0:Int)),(zI (2:Int)),(zI (4:Int)),(zI (5:Int))]:LV))))),(Sl.v 1 (Sl.mk 4 0 (Aq (4*1) (Am 0 ([(zI (0:Int)),(zI (1:Int)),(zI (2:Int)),(zI (3:Int))]:LV))))),(Sl.v 1 (Sl.mk 2 0 (Aq (2*1) (Am 0 ([(zI (0:Int)),(zI (6:Int))]:LV))))),(Sl.v 1 (Sl.mk 2 0 (Aq (2*1) (Am 0 ([(zI (0:Int)),(zI (7:Int))]:LV))))),(Sl.v 1 (Sl.mk 4 0 (Aq (4*1) (Am 0 ([(zI (0:Int)),(zI (2:Int)),(zI (6:Int)),(zI (7:Int))]:LV))))),(Sl.v 1 (Sl.mk 8 0 (Aq (8*1) (Am 0 ([(zI (0:Int)),(zI (1:Int)),(zI (2:Int)),(zI (3:Int)),(zI (4:Int)),(zI (5:Int)),(zI (6:Int)),(zI (7:Int))]:LV)))))])]) (.k [1] [false] [.tmp 3 false,.tmp 6 false,.tmp 8 false,.tmp 9 false] [3,6,8,9] ⟨Bq h1,trivial⟩) ?_
 refine .then (.rK (.ghs (fr 79 [(3,pt 1 0),(6,(pt 2 0)),(8,(pt 3 0)),(9,sc 4 0 1 10 21),(10,(zI (5:Int)))]) (hT 5 [oC q0,(oC [(zI (0:Int)),(zI (0:Int)),(zI (0:Int)),(.slice none 0 0)]),(oC [(zI (Aj .i64 (Int.add (1:Int) (Int.tmod (Aj .i64 x2) x0)))),(zI (Aj .i64 (Int.add (1:Int) (Int.tmod (Aj .i64 x3) x0)))),(zI (Aj .i64 (Int.add (1:Int) (Int.tmod (Aj .i64 x4) x1)))),(.slice none 0 0)]),(oC [(Sl.v 1 (Sl.mk 1 0 (Aq (1*1) (Am 0 ([(zI (0:Int))]:LV))))),(Sl.v 1 (Sl.mk 2 0 (Aq (2*1) (Am 0 ([(zI (0:Int)),(zI (2:Int))]:LV))))),(Sl.v 1 (Sl.mk 2 0 (Aq (2*1) (Am 0 ([(zI (0:Int)),(zI (4:Int))]:LV))))),(Sl.v 1 (Sl.mk 2 0 (Aq (2*1) (Am 0 ([(zI (0:Int)),(zI (5:Int))]:LV))))),(Sl.v 1 (Sl.mk 4 0 (Aq (4*1) (Am 0 ([(zI (0:Int)),(zI (2:Int)),(zI (4:Int)),(zI (5:Int))]:LV))))),(Sl.v 1 (Sl.mk 4 0 (Aq (4*1) (Am 0 ([(zI (0:Int)),(zI (1:Int)),(zI (2:Int)),(zI (3:Int))]:LV))))),(Sl.v 1 (Sl.mk 2 0 (Aq (2*1) (Am 0 ([(zI (0:Int)),(zI (6:Int))]:LV))))),(Sl.v 1 (Sl.mk 2 0 (Aq (2*1) (Am 0 ([(zI (0:Int)),(zI (7:Int))]:LV))))),(Sl.v 1 (Sl.mk 4 0 (Aq (4*1) (Am 0 ([(zI (0:Int)),(zI (2:Int)),(zI (6:Int)),(zI (7:Int))]:LV))))),(Sl.v 1 (Sl.mk 8 0 (Aq (8*1) (Am 0 ([(zI (0:Int)),(zI (1:Int)),(zI (2:Int)),(zI (3:Int)),(zI (4:Int)),(zI (5:Int)),(zI (6:Int)),(zI (7:Int))]:LV)))))])]) (.k [1] [false] [.tmp 3 false,.tmp 6 false,.tmp 8 false,.tmp 9 false] [3,6,8,9,10] ⟨Bq h1,trivial⟩) ?_))
 refine .join (v:=v) (fun y:Nat×Nat×Int×LV×Int×Int×Int×Int×Int×Int×LV=>((fr 79 [(3,pt 1 0),(6,(pt 2 0)),(8,(pt 3 0)),(9,(sc 4 0 1 y.1 y.2.1)),(10,(zI y.2.2.1))]),(hT 5 [(oC y.2.2.2.1),(oC [(zI y.2.2.2.2.1),(zI y.2.2.2.2.2.1),(zI y.2.2.2.2.2.2.1),(.slice none 0 0)]),(oC [(zI y.2.2.2.2.2.2.2.1),(zI y.2.2.2.2.2.2.2.2.1),(zI y.2.2.2.2.2.2.2.2.2.1),(.slice none 0 0)]),(oC y.2.2.2.2.2.2.2.2.2.2)]))) (fun y=>QJ pu n y.1 y.2.1 y.2.2.1 y.2.2.2.1 y.2.2.2.2.1 y.2.2.2.2.2.1 y.2.2.2.2.2.2.1 y.2.2.2.2.2.2.2.1 y.2.2.2.2.2.2.2.2.1 y.2.2.2.2.2.2.2.2.2.1 y.2.2.2.2.2.2.2.2.2.2) ?_ ?_
 ·rintro⟨n0,c0,z0,q1,z1,z2,z3,z4,z5,z6,q2⟩ hm
  exact AiJ pu n n0 c0 z0 q1 z1 z2 z3 z4 z5 z6 q2 hm
 ·refine .then (.rK (.ghs (fr 79 [(3,pt 1 0),(6,(pt 2 0)),(8,(pt 3 0)),(9,sc 4 0 1 10 21),(10,(zI (5:Int))),(47,(zB (Bd (Aj .i64 (Int.add (1:Int) (Int.tmod (Aj .i64 x2) x0))) (Aj .i64 (Int.add (1:Int) (Int.tmod (Aj .i64 x3) x0))))))]) (hT 5 [oC q0,(oC [(zI (0:Int)),(zI (0:Int)),(zI (0:Int)),(.slice none 0 0)]),(oC [(zI (Aj .i64 (Int.add (1:Int) (Int.tmod (Aj .i64 x2) x0)))),(zI (Aj .i64 (Int.add (1:Int) (Int.tmod (Aj .i64 x3) x0)))),(zI (Aj .i64 (Int.add (1:Int) (Int.tmod (Aj .i64 x4) x1)))),(.slice none 0 0)]),(oC [(Sl.v 1 (Sl.mk 1 0 (Aq (1*1) (Am 0 ([(zI (0:Int))]:LV))))),(Sl.v 1 (Sl.mk 2 0 (Aq (2*1) (Am 0 ([(zI (0:Int)),(zI (2:Int))]:LV))))),(Sl.v 1 (Sl.mk 2 0 (Aq (2*1) (Am 0 ([(zI (0:Int)),(zI (4:Int))]:LV))))),(Sl.v 1 (Sl.mk 2 0 (Aq (2*1) (Am 0 ([(zI (0:Int)),(zI (5:Int))]:LV))))),(Sl.v 1 (Sl.mk 4 0 (Aq (4*1) (Am 0 ([(zI (0:Int)),(zI (2:Int)),(zI (4:Int)),(zI (5:Int))]:LV))))),(Sl.v 1 (Sl.mk 4 0 (Aq (4*1) (Am 0 ([(zI (0:Int)),(zI (1:Int)),(zI (2:Int)),(zI (3:Int))]:LV))))),(Sl.v 1 (Sl.mk 2 0 (Aq (2*1) (Am 0 ([(zI (0:Int)),(zI (6:Int))]:LV))))),(Sl.v 1 (Sl.mk 2 0 (Aq (2*1) (Am 0 ([(zI (0:Int)),(zI (7:Int))]:LV))))),(Sl.v 1 (Sl.mk 4 0 (Aq (4*1) (Am 0 ([(zI (0:Int)),(zI (2:Int)),(zI (6:Int)),(zI (7:Int))]:LV))))),(Sl.v 1 (Sl.mk 8 0 (Aq (8*1) (Am 0 ([(zI (0:Int)),(zI (1:Int)),(zI (2:Int)),(zI (3:Int)),(zI (4:Int)),(zI (5:Int)),(zI (6:Int)),(zI (7:Int))]:LV)))))])]) (.k [1] [false] [.tmp 3 false,.tmp 6 false,.tmp 8 false,.tmp 9 false] [3,6,8,9,10,47] ⟨Bq h1,trivial⟩) ?_))
  replace hm:=Ag hm;rcases hm with⟨h8,hm⟩ | ⟨h8,hm⟩
  ·refine BB (Bd (Aj .i64 (Int.add (1:Int) (Int.tmod (Aj .i64 x2) x0))) (Aj .i64 (Int.add (1:Int) (Int.tmod (Aj .i64 x3) x0)))) h8 ?_
   refine .rK ?_
   exact⟨(10,21,(10:Int),q0,(0:Int),(0:Int),(0:Int),(Aj .i64 (Int.add (1:Int) (Int.tmod (Aj .i64 x2) x0))),(Aj .i64 (Int.add (1:Int) (Int.tmod (Aj .i64 x3) x0))),(Aj .i64 (Int.add (1:Int) (Int.tmod (Aj .i64 x4) x1))),([(Sl.v 1 (Sl.mk 1 0 (Aq (1*1) (Am 0 ([(zI (0:Int))]:LV))))),(Sl.v 1 (Sl.mk 2 0 (Aq (2*1) (Am 0 ([(zI (0:Int)),(zI (2:Int))]:LV))))),(Sl.v 1 (Sl.mk 2 0 (Aq (2*1) (Am 0 ([(zI (0:Int)),(zI (4:Int))]:LV))))),(Sl.v 1 (Sl.mk 2 0 (Aq (2*1) (Am 0 ([(zI (0:Int)),(zI (5:Int))]:LV))))),(Sl.v 1 (Sl.mk 4 0 (Aq (4*1) (Am 0 ([(zI (0:Int)),(zI (2:Int)),(zI (4:Int)),(zI (5:Int))]:LV))))),(Sl.v 1 (Sl.mk 4 0 (Aq (4*1) (Am 0 ([(zI (0:Int)),(zI (1:Int)),(zI (2:Int)),(zI (3:Int))]:LV))))),(Sl.v 1 (Sl.mk 2 0 (Aq (2*1) (Am 0 ([(zI (0:Int)),(zI (6:Int))]:LV))))),(Sl.v 1 (Sl.mk 2 0 (Aq (2*1) (Am 0 ([(zI (0:Int)),(zI (7:Int))]:LV))))),(Sl.v 1 (Sl.mk 4 0 (Aq (4*1) (Am 0 ([(zI (0:Int)),(zI (2:Int)),(zI (6:Int)),(zI (7:Int))]:LV))))),(Sl.v 1 (Sl.mk 8 0 (Aq (8*1) (Am 0 ([(zI (0:Int)),(zI (1:Int)),(zI (2:Int)),(zI (3:Int)),(zI (4:Int)),(zI (5:Int)),(zI (6:Int)),(zI (7:Int))]:LV)))))]:LV)),hm,(.k [1] [false] [.tmp 3 false,.tmp 6 false,.tmp 8 false,.tmp 9 false] [3,6,8,9,10] ⟨Bq h1,trivial⟩)⟩
  ·refine BI (Bd (Aj .i64 (Int.add (1:Int) (Int.tmod (Aj .i64 x2) x0))) (Aj .i64 (Int.add (1:Int) (Int.tmod (Aj .i64 x3) x0)))) h8 ?_
   refine .skip ?_
   exact⟨(10,21,(5:Int),q0,(0:Int),(0:Int),(0:Int),(Aj .i64 (Int.add (1:Int) (Int.tmod (Aj .i64 x2) x0))),(Aj .i64 (Int.add (1:Int) (Int.tmod (Aj .i64 x3) x0))),(Aj .i64 (Int.add (1:Int) (Int.tmod (Aj .i64 x4) x1))),([(Sl.v 1 (Sl.mk 1 0 (Aq (1*1) (Am 0 ([(zI (0:Int))]:LV))))),(Sl.v 1 (Sl.mk 2 0 (Aq (2*1) (Am 0 ([(zI (0:Int)),(zI (2:Int))]:LV))))),(Sl.v 1 (Sl.mk 2 0 (Aq (2*1) (Am 0 ([(zI (0:Int)),(zI (4:Int))]:LV))))),(Sl.v 1 (Sl.mk 2 0 (Aq (2*1) (Am 0 ([(zI (0:Int)),(zI (5:Int))]:LV))))),(Sl.v 1 (Sl.mk 4 0 (Aq (4*1) (Am 0 ([(zI (0:Int)),(zI (2:Int)),(zI (4:Int)),(zI (5:Int))]:LV))))),(Sl.v 1 (Sl.mk 4 0 (Aq (4*1) (Am 0 ([(zI (0:Int)),(zI (1:Int)),(zI (2:Int)),(zI (3:Int))]:LV))))),(Sl.v 1 (Sl.mk 2 0 (Aq (2*1) (Am 0 ([(zI (0:Int)),(zI (6:Int))]:LV))))),(Sl.v 1 (Sl.mk 2 0 (Aq (2*1) (Am 0 ([(zI (0:Int)),(zI (7:Int))]:LV))))),(Sl.v 1 (Sl.mk 4 0 (Aq (4*1) (Am 0 ([(zI (0:Int)),(zI (2:Int)),(zI (6:Int)),(zI (7:Int))]:LV))))),(Sl.v 1 (Sl.mk 8 0 (Aq (8*1) (Am 0 ([(zI (0:Int)),(zI (1:Int)),(zI (2:Int)),(zI (3:Int)),(zI (4:Int)),(zI (5:Int)),(zI (6:Int)),(zI (7:Int))]:LV)))))]:LV)),hm,(.k [1] [false] [.tmp 3 false,.tmp 6 false,.tmp 8 false,.tmp 9 false] [3,6,8,9,10] ⟨Bq h1,trivial⟩)⟩
def XO (pu:Af) (n:Nat):OV:=
 (some (.bool true))
def Pk (pu:Af) (n:Nat) (ih0:Sl→Sl→Int→OV) (s0 s1:Sl) (z0:Int):OV:=
 (bb (AY z0 (Int.ofNat (Sl.n s0))) (oo (EA z0) none fun k1=>(bb (an (Nat.blt k1 (Sl.n s0)) true) (oo (AL (Sl.cs s0) (k1*1)) none fun v0=>(oo (Bi .i64 v0) none fun x0=>(bb (an (Nat.blt k1 (Sl.n s1)) true) (oo (AL (Sl.cs s1) (k1*1)) none fun v1=>(oo (Bi .i64 v1) none fun x1=>(bb (nt (Bd x0 x1)) (some (.bool false)) (ih0 s0 s1 (Aj .i64 (Int.add (Int.ofNat k1) (1:Int))))))) none))) none)) (XO pu n))
def Pm (pu:Af) (n w:Nat):Sl→Sl→Int→OV:=
 Nat.rec (motive:=fun _=>Sl→Sl→Int→OV) (fun _ _ _=>none) (fun _ ih0=>Pk pu n ih0) w
def Afu (pu:Af) (n:Nat) (s0 s1:Sl):OV:=
 (bb (nt (Bd (Int.ofNat (Sl.n s0)) (Int.ofNat (Sl.n s1)))) (some (.bool false)) (Pm pu n n s0 s1 (0:Int)))
def m12 (pu:Af) (n:Nat) (args:LV):OV:=
 (ll args none fun a0 args=>(ll args none fun a1 args=>(ll args (oo (Bj 1 a0) none fun s0=>(oo (Bj 1 a1) none fun s1=>(Afu pu n s0 s1))) fun _ _=>none)))
theorem Afw (pu:Af) (n:Nat) {v:Value} (hm:XO pu n=some v):BN tt (Bb tabs isP pu (inl pu)) 1 bN (fr 26 []) Ay (Fin tt 1 [.tmp 4] v):=by
 unfold XO at hm
 refine .then (.rK (.ghs (fr 26 [(4,zB true)]) Ay (.k0 [false] [] [4]) ?_))
 refine .ret ?_
 exact AO (zB true) hm
theorem r12 {call:A8} (pu:Af) (n:Nat) (hcall:call=Bb tabs isP pu (inl pu)) {args:LV} {v:Value} (hm:m12 pu n args=some v) (_:∀ x∈args,closed2 x=true):args.length≤26∧BN tt call 1 Sr (Fr.made 26 args) (Ao tabs) (Fin tt 1 [.tmp 4] v):=by
 subst hcall
 unfold m12 at hm
 replace hm:=Ad hm;obtain⟨a0,args_0,rfl,hm⟩:=hm
 replace hm:=Ad hm;obtain⟨a1,args_1,rfl,hm⟩:=hm
 replace hm:=AC hm;obtain⟨rfl,hm⟩:=hm
 replace hm:=Al hm;obtain⟨s0,rfl,hm⟩:=hm
 replace hm:=Al hm;obtain⟨s1,rfl,hm⟩:=hm
 unfold Afu at hm
 refine⟨by simp,?_⟩
 refine .same (F':=(fr 26 [(0,Sl.v 1 s0),(1,Sl.v 1 s1)])) (H':=Ay) (by kernel_rfl) (by kernel_rfl) ?_
 refine .then (.rK (.ghs (fr 26 [(0,Sl.v 1 s0),(1,Sl.v 1 s1)]) Ay (.k0 [false] [] [0,1]) ?_))
 refine .then (.then (.rK (.ghs (fr 26 [(0,Sl.v 1 s0),(1,Sl.v 1 s1),(10,(zB (nt (Bd (Int.ofNat (Sl.n s0)) (Int.ofNat (Sl.n s1))))))]) Ay (.k0 [false] [] [0,1,10]) ?_)))
 replace hm:=Ag hm;rcases hm with⟨h0,hm⟩ | ⟨h0,hm⟩
 ·refine BB (nt (Bd (Int.ofNat (Sl.n s0)) (Int.ofNat (Sl.n s1)))) h0 ?_
  refine .then (.rK (.ghs (fr 26 [(4,zB false)]) Ay (.k0 [false] [] [4]) ?_))
  refine .ret ?_
  exact AO (zB false) hm
 ·refine BI (nt (Bd (Int.ofNat (Sl.n s0)) (Int.ofNat (Sl.n s1)))) h0 ?_
  refine .skip (.ghs (fr 26 [(0,Sl.v 1 s0),(1,Sl.v 1 s1)]) Ay (.k0 [false] [] [0,1]) ?_)
  refine .join (v:=v) (fun y:Unit=>((fr 26 []),Ay)) (fun y=>XO pu n) ?_ ?_
  ·rintro _ hm
   exact Afw pu n hm
  ·refine .then (.rK (.ghs (fr 26 [(0,Sl.v 1 s0),(1,Sl.v 1 s1),(5,(zI (0:Int)))]) Ay (.k0 [false] [] [0,1,5]) ?_))
   refine .block (.loopM (v:=v) (fun y:Sl×Sl×Int=>((fr 26 [(0,(Sl.v 1 y.1)),(1,(Sl.v 1 y.2.1)),(5,(zI y.2.2))]),Ay)) (fun w y=>Pm pu n w y.1 y.2.1 y.2.2) n ⟨(s0,s1,(0:Int)),hm,(.k0 [false] [] [0,1,5])⟩ (fun _=>rfl) ?_)
   rintro w0 ⟨s2,s3,z0⟩ hm
   replace hm:Pk pu n (Pm pu n w0) s2 s3 z0=some v:=hm
   unfold Pk at hm
   refine .then (.then (.rK (.ghs (fr 26 [(0,Sl.v 1 s2),(1,Sl.v 1 s3),(5,zI z0),(14,(zB (AY z0 (Int.ofNat (Sl.n s2)))))]) Ay (.k0 [false] [] [0,1,5,14]) ?_)))
   replace hm:=Ag hm;rcases hm with⟨h1,hm⟩ | ⟨h1,hm⟩
   ·refine BB (AY z0 (Int.ofNat (Sl.n s2))) h1 ?_
    refine .skip (.ghs (fr 26 [(0,Sl.v 1 s2),(1,Sl.v 1 s3),(5,zI z0)]) Ay (.k0 [false] [] [0,1,5]) ?_)
    refine .then (.block (.then ?_))
    replace hm:=Ab hm;obtain⟨k1,h2,hm⟩:=hm
    obtain rfl:=AR h2
    replace hm:=Ae hm;obtain⟨h3,hm⟩:=hm
    replace hm:=G9 hm;obtain⟨x0,h4,hm⟩:=hm
    replace hm:=Ae hm;obtain⟨h5,hm⟩:=hm
    replace hm:=G9 hm;obtain⟨x1,h6,hm⟩:=hm
    refine .reg (eC 2 (keep Ay (bb (an (Nat.blt k1 (Sl.n s2)) true) (some (Cv (k1*1) (Sl.cs s2))) none)) (AX h3) (eD (keep Ay (AL (Sl.cs s2) (k1*1))) (AZ h4) (eC 2 (keep Ay (bb (an (Nat.blt k1 (Sl.n s3)) true) (some (Cv (k1*1) (Sl.cs s3))) none)) (AX h5) (eD (keep Ay (AL (Sl.cs s3) (k1*1))) (AZ h6) (eE))))) ?_
    refine .ghs (fr 26 [(0,Sl.v 1 s2),(1,Sl.v 1 s3),(5,(zI (Int.ofNat k1))),(25,(zB (nt (Bd x0 x1))))]) Ay (.k0 [false] [] [0,1,5,25]) ?_
    replace hm:=Ag hm;rcases hm with⟨h7,hm⟩ | ⟨h7,hm⟩
    ·refine BB (nt (Bd x0 x1)) h7 ?_
     refine .then (.rK (.ghs (fr 26 [(4,zB false)]) Ay (.k0 [false] [] [4]) ?_))
     refine .ret ?_
     exact AO (zB false) hm
    ·refine BI (nt (Bd x0 x1)) h7 ?_
     refine .skip (.ghs (fr 26 [(0,Sl.v 1 s2),(1,Sl.v 1 s3),(5,(zI (Int.ofNat k1)))]) Ay (.k0 [false] [] [0,1,5]) ?_)
     refine .rK ?_
     exact⟨(s2,s3,(Aj .i64 (Int.add (Int.ofNat k1) (1:Int)))),hm,(.k0 [false] [] [0,1,5])⟩
   ·refine BI (AY z0 (Int.ofNat (Sl.n s2))) h1 ?_
    refine .exit ?_
    exact⟨(),hm,(.k0 [false] [] [])⟩

def iW (pu:Af) (n:Nat) (x0 x1 x2:Int) (s0 s1:Sl):OV:=
 (oo (pu 32 [(.agg ⟨[.int .i64 x0,.int .i64 x1,.int .i64 x2,Sl.v 1 s0]⟩),(Sl.v 1 (Sl.mk 1 0 (Aq (1*1) (Am 0 ([Sl.v 1 s1]:LV)))))]) none fun v0=>(oo (CQ v0) none fun l0=>(ll l0 none fun v1 l0=>(ll l0 none fun v2 l0=>(ll l0 (bb (isS (Pv v1)) (oo (Pv v1) none fun p0=>(oo (Bi .i64 v2) none fun x3=>(bb (nt (Bd x3 (0:Int))) (some (.tuple ⟨[(Sl.v 1 (Sl.mk 0 2 [])),.int .i64 x3]⟩)) (oo (pu 35 [(Cv (Db.off p0) (Db.cs p0)),Sl.v 1 s1]) none fun v3=>(oo (Bj 1 v3) none fun s2=>(some (.tuple ⟨[Sl.v 1 s2,(.int .i64 (0:Int))]⟩))))))) (bb (WE v1) (oo (Bi .i64 v2) none fun x4=>(bb (nt (Bd x4 (0:Int))) (some (.tuple ⟨[(Sl.v 1 (Sl.mk 0 2 [])),.int .i64 x4]⟩)) (oo (pu 35 [(.pointer none),Sl.v 1 s1]) none fun v4=>(oo (Bj 1 v4) none fun s3=>(some (.tuple ⟨[Sl.v 1 s3,(.int .i64 (0:Int))]⟩)))))) none)) fun _ _=>none)))))
def m14 (pu:Af) (n:Nat) (args:LV):OV:=
 (ll args none fun a0 args=>(ll args none fun a1 args=>(ll args (oo (Bt a0) none fun l0=>(ll l0 none fun v0 l0=>(ll l0 none fun v1 l0=>(ll l0 none fun v2 l0=>(ll l0 none fun v3 l0=>(ll l0 (oo (Bi .i64 v0) none fun x0=>(oo (Bi .i64 v1) none fun x1=>(oo (Bi .i64 v2) none fun x2=>(oo (Bj 1 v3) none fun s0=>(oo (Bj 1 a1) none fun s1=>(iW pu n x0 x1 x2 s0 s1)))))) fun _ _=>none)))))) fun _ _=>none)))
theorem r14 {call:A8} (pu:Af) (n:Nat) (hcall:call=Bb tabs isP pu (inl pu)) {args:LV} {v:Value} (hm:m14 pu n args=some v) (_:∀ x∈args,closed2 x=true):args.length≤21∧BN tt call 1 Sz (Fr.made 21 args) (Ao tabs) (Fin tt 1 [.tmp 4,.tmp 5] v):=by
 subst hcall
 unfold m14 at hm
 replace hm:=Ad hm;obtain⟨a0,args_0,rfl,hm⟩:=hm
 replace hm:=Ad hm;obtain⟨a1,args_1,rfl,hm⟩:=hm
 replace hm:=AC hm;obtain⟨rfl,hm⟩:=hm
 replace hm:=BG hm;obtain⟨l0,rfl,hm⟩:=hm
 replace hm:=Ad hm;obtain⟨v0,l908_0,rfl,hm⟩:=hm
 replace hm:=Ad hm;obtain⟨v1,l908_1,rfl,hm⟩:=hm
 replace hm:=Ad hm;obtain⟨v2,l908_2,rfl,hm⟩:=hm
 replace hm:=Ad hm;obtain⟨v3,l908_3,rfl,hm⟩:=hm
 replace hm:=AC hm;obtain⟨rfl,hm⟩:=hm
 replace hm:=Ai hm;obtain⟨x0,rfl,hm⟩:=hm
 replace hm:=Ai hm;obtain⟨x1,rfl,hm⟩:=hm
 replace hm:=Ai hm;obtain⟨x2,rfl,hm⟩:=hm
 replace hm:=Al hm;obtain⟨s0,rfl,hm⟩:=hm
 replace hm:=Al hm;obtain⟨s1,rfl,hm⟩:=hm
 unfold iW at hm
 refine⟨by simp,?_⟩
 refine .same (F':=(fr 21 [(0,(.agg ⟨[zI x0,zI x1,zI x2,Sl.v 1 s0]⟩)),(1,Sl.v 1 s1)])) (H':=Ay) (by kernel_rfl) (by kernel_rfl) ?_
 refine .then (.rK (.ghs (fr 21 [(1,Sl.v 1 s1),(2,pt 1 0)]) (hT 2 [(oC [zI x0,zI x1,zI x2,Sl.v 1 s0])]) (.k0 [false] [.tmp 2 false] [1,2]) ?_))
 refine .then ?_
 replace hm:=Ab hm;obtain⟨v4,h0,hm⟩:=hm
 replace hm:=Ch hm;obtain⟨l1,rfl,hm⟩:=hm
 replace hm:=Ad hm;obtain⟨v5,l937_0,rfl,hm⟩:=hm
 replace hm:=Ad hm;obtain⟨v6,l937_1,rfl,hm⟩:=hm
 replace hm:=AC hm;obtain⟨rfl,hm⟩:=hm
 replace hm:=Ag hm;rcases hm with⟨h1,hm⟩ | ⟨h1,hm⟩
 ·replace hm:=Ab hm;obtain⟨p0,h2,hm⟩:=hm
  obtain rfl:=F7 h2
  replace hm:=Ai hm;obtain⟨x3,rfl,hm⟩:=hm
  refine .reg (eC 3 (Hr tabs 1 (pu 32) [(.agg ⟨[zI x0,zI x1,zI x2,Sl.v 1 s0]⟩),sc 2 0 1 1 3] (hT 3 [(oC [zI x0,zI x1,zI x2,Sl.v 1 s0]),(oC [Sl.v 1 s1])])) (KI (DZ (CV (z:=1) (v:=(.agg ⟨[zI x0,zI x1,zI x2,Sl.v 1 s0]⟩)) (H:=(hT 3 [(oC [zI x0,zI x1,zI x2,Sl.v 1 s0]),(oC [Sl.v 1 s1])])) (by kernel_rfl) (by kernel_rfl) (by kernel_rfl)) (DZ (show ER 1 (sc 2 0 1 1 3) (hT 3 [(oC [zI x0,zI x1,zI x2,Sl.v 1 s0]),(oC [Sl.v 1 s1])])=some ((Sl.v 1 (Sl.mk 1 0 (Aq (1*1) (Am 0 ([Sl.v 1 s1]:LV))))),(hT 3 [(oC [zI x0,zI x1,zI x2,Sl.v 1 s0]),.dead])) from KH 2 0 1 1 3 ([Sl.v 1 s1]:LV) [] (by kernel_rfl) (by kernel_rfl) (by kernel_rfl)) Jt)) (by kernel_rfl) h0) (eE)) ?_
  refine .ghs (fr 21 [(1,Sl.v 1 s1),(6,(Cv (Db.off p0) (Db.cs p0))),(7,zI x3)]) Ay (.k0 [false] [] [1,6,7]) ?_
  refine .then (.then (.rK (.ghs (fr 21 [(1,Sl.v 1 s1),(6,(Cv (Db.off p0) (Db.cs p0))),(7,zI x3),(16,(zB (nt (Bd x3 (0:Int)))))]) Ay (.k0 [false] [] [1,6,7,16]) ?_)))
  replace hm:=Ag hm;rcases hm with⟨h3,hm⟩ | ⟨h3,hm⟩
  ·refine BB (nt (Bd x3 (0:Int))) h3 ?_
   refine .then (.rK (.ghs (fr 21 [(4,(.slice none 0 0)),(5,zI x3)]) Ay (.k0 [false] [] [4,5]) ?_))
   refine .ghs (Fr.puts (fr 21 [(4,(.slice none 0 0)),(5,zI x3)]) [(4,(Sl.v 1 (Sl.mk 0 2 [])))]) Ay (.freeze 1 4 1 (by kernel_rfl) (by kernel_rfl) (E9.id _ _)) ?_
   refine .ret ?_
   exact AO (.tuple ⟨[(Sl.v 1 (Sl.mk 0 2 [])),zI x3]⟩) hm
  ·refine BI (nt (Bd x3 (0:Int))) h3 ?_
   refine .skip (.ghs (fr 21 [(1,Sl.v 1 s1),(6,(Cv (Db.off p0) (Db.cs p0)))]) Ay (.k0 [false] [] [1,6]) ?_)
   refine .then ?_
   replace hm:=LK hm;obtain⟨s2,h4,hm⟩:=hm
   refine .reg (eC 2 ((oo (pu 35 [(Cv (Db.off p0) (Db.cs p0)),Sl.v 1 s1]) none fun v=>some (v,Ay))) (AB h4) (eE)) ?_
   refine .ghs (fr 21 [(4,Sl.v 1 s2),(5,(zI (0:Int)))]) Ay (.k0 [false] [] [4,5]) ?_
   refine .ret ?_
   exact AO (.tuple ⟨[Sl.v 1 s2,(zI (0:Int))]⟩) hm
 ·replace hm:=Ae hm;obtain⟨h5,hm⟩:=hm
  obtain rfl:=MG h5
  replace hm:=Ai hm;obtain⟨x4,rfl,hm⟩:=hm
  refine .reg (eC 3 (Hr tabs 1 (pu 32) [(.agg ⟨[zI x0,zI x1,zI x2,Sl.v 1 s0]⟩),sc 2 0 1 1 3] (hT 3 [(oC [zI x0,zI x1,zI x2,Sl.v 1 s0]),(oC [Sl.v 1 s1])])) (KI (DZ (CV (z:=1) (v:=(.agg ⟨[zI x0,zI x1,zI x2,Sl.v 1 s0]⟩)) (H:=(hT 3 [(oC [zI x0,zI x1,zI x2,Sl.v 1 s0]),(oC [Sl.v 1 s1])])) (by kernel_rfl) (by kernel_rfl) (by kernel_rfl)) (DZ (show ER 1 (sc 2 0 1 1 3) (hT 3 [(oC [zI x0,zI x1,zI x2,Sl.v 1 s0]),(oC [Sl.v 1 s1])])=some ((Sl.v 1 (Sl.mk 1 0 (Aq (1*1) (Am 0 ([Sl.v 1 s1]:LV))))),(hT 3 [(oC [zI x0,zI x1,zI x2,Sl.v 1 s0]),.dead])) from KH 2 0 1 1 3 ([Sl.v 1 s1]:LV) [] (by kernel_rfl) (by kernel_rfl) (by kernel_rfl)) Jt)) (by kernel_rfl) h0) (eE)) ?_
  refine .ghs (fr 21 [(1,Sl.v 1 s1),(6,(.pointer none)),(7,zI x4)]) Ay (.k0 [false] [] [1,6,7]) ?_
  refine .then (.then (.rK (.ghs (fr 21 [(1,Sl.v 1 s1),(6,(.pointer none)),(7,zI x4),(16,(zB (nt (Bd x4 (0:Int)))))]) Ay (.k0 [false] [] [1,6,7,16]) ?_)))
  replace hm:=Ag hm;rcases hm with⟨h6,hm⟩ | ⟨h6,hm⟩
  ·refine BB (nt (Bd x4 (0:Int))) h6 ?_
   refine .then (.rK (.ghs (fr 21 [(4,(.slice none 0 0)),(5,zI x4)]) Ay (.k0 [false] [] [4,5]) ?_))
   refine .ghs (Fr.puts (fr 21 [(4,(.slice none 0 0)),(5,zI x4)]) [(4,(Sl.v 1 (Sl.mk 0 2 [])))]) Ay (.freeze 1 4 1 (by kernel_rfl) (by kernel_rfl) (E9.id _ _)) ?_
   refine .ret ?_
   exact AO (.tuple ⟨[(Sl.v 1 (Sl.mk 0 2 [])),zI x4]⟩) hm
  ·refine BI (nt (Bd x4 (0:Int))) h6 ?_
   refine .skip (.ghs (fr 21 [(1,Sl.v 1 s1),(6,(.pointer none))]) Ay (.k0 [false] [] [1,6]) ?_)
   refine .then ?_
   replace hm:=LK hm;obtain⟨s3,h7,hm⟩:=hm
   refine .reg (eC 2 ((oo (pu 35 [(.pointer none),Sl.v 1 s1]) none fun v=>some (v,Ay))) (AB h7) (eE)) ?_
   refine .ghs (fr 21 [(4,Sl.v 1 s3),(5,(zI (0:Int)))]) Ay (.k0 [false] [] [4,5]) ?_
   refine .ret ?_
   exact AO (.tuple ⟨[Sl.v 1 s3,(zI (0:Int))]⟩) hm
end
end Go.BkMM
