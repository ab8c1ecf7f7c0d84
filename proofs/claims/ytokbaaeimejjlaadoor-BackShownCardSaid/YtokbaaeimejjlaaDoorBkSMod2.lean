/- Made from wip. -/
import Derived.Test.YtokbaaeimejjlaaDoorBkSMod1x

set_option maxRecDepth 100000
set_option maxHeartbeats 20000000
set_option linter.unusedVariables false
namespace Go.BkSM
open Go.Sp Go.BkS
noncomputable section
def bP (pu:Af) (n n0 c0:Nat) (z0 z1 z2 z3 z4 z5:Int) (s0:Sl) (q0:LV):OV:=
 (bb (Au Ah q0) (bb (an (Nat.ble (0+n0*1) (len q0)) (Au Ah (Aq (n0*1) (Am 0 q0)))) (some (.tuple ⟨[(.agg ⟨[.int .i64 z3,.int .i64 z4,.int .i64 z5,Sl.v 1 s0]⟩),(Sl.v 1 (Sl.mk n0 0 (Aq (n0*1) (Am 0 q0))))]⟩)) none) none)
def tZ (pu:Af) (n:Nat) (ih0:Nat→Nat→Int→Int→LV→Int→Int→Int→Int→Int→Int→Sl→LV→OV) (n0 c0:Nat) (z0 z1:Int) (q0:LV) (z2 z3 z4 z5 z6 z7:Int) (s0:Sl) (q1:LV):OV:=
 (bb (Au Ah q0) (bb (Au Ah q1) (bb (AY z1 z0) (oo (EA z1) none fun k1=>(bb (Nat.blt k1 16) (oo (AL q0 (4+k1*1)) none fun v0=>(oo (Bi .u8 v0) none fun x0=>(bb (nt (Bd z7 (0:Int))) (bb (GV 1 8 n0 c0 1 q1) (bb (Au Ah (Br (Am 0 q1) [(.int .i64 (Int.tmod (Aj .i64 x0) z7))])) (ih0 (n0+1) (2*(n0+1)+bb false 1 0) z0 (Aj .i64 (Int.add (Int.ofNat k1) (1:Int))) q0 z2 z3 z4 z5 z6 z7 s0 (Br (Am 0 q1) [(.int .i64 (Int.tmod (Aj .i64 x0) z7))])) none) none) none))) none)) (bP pu n n0 c0 z2 z3 z4 z5 z6 z7 s0 q1)) none) none)
def Sa (pu:Af) (n w:Nat):Nat→Nat→Int→Int→LV→Int→Int→Int→Int→Int→Int→Sl→LV→OV:=
 Nat.rec (motive:=fun _=>Nat→Nat→Int→Int→LV→Int→Int→Int→Int→Int→Int→Sl→LV→OV) (fun _ _ _ _ _ _ _ _ _ _ _ _ _=>none) (fun _ ih0=>tZ pu n ih0) w
def OZ (pu:Af) (n n0 c0:Nat) (z0:Int) (q0:LV) (z1 z2 z3 z4 z5 z6:Int) (q1:LV):OV:=
 (oo (AL q0 3) none fun v0=>(oo (Bi .u8 v0) none fun x0=>(bb (nt (Bd z0 (0:Int))) (oo (EA (Int.tmod (Aj .i64 x0) z0)) none fun k1=>(bb (an (Nat.blt k1 n0) true) (oo (AL q1 (0+k1*1)) none fun v1=>(oo (Bj 1 v1) none fun s0=>(bb (Au Ah q0) (Sa pu n n 0 0 (Aj .i64 (Int.mul z4 z5)) (0:Int) q0 z1 z2 z3 z4 z5 z6 s0 ([]:LV)) none))) none)) none)))
def m9_ (pu:Af) (n:Nat) (q0:LV) (x0 x1:Int):OV:=
 (bb (Au Ah q0) (oo (AL q0 0) none fun v0=>(oo (Bi .u8 v0) none fun x2=>(bb (nt (Bd x0 (0:Int))) (oo (AL q0 1) none fun v1=>(oo (Bi .u8 v1) none fun x3=>(bb (nt (Bd x0 (0:Int))) (oo (AL q0 2) none fun v2=>(oo (Bi .u8 v2) none fun x4=>(bb (nt (Bd x1 (0:Int))) (bb (Bd (Aj .i64 (Int.add (1:Int) (Int.tmod (Aj .i64 x2) x0))) (Aj .i64 (Int.add (1:Int) (Int.tmod (Aj .i64 x3) x0)))) (OZ pu n 10 21 (10:Int) q0 (0:Int) (0:Int) (0:Int) (Aj .i64 (Int.add (1:Int) (Int.tmod (Aj .i64 x2) x0))) (Aj .i64 (Int.add (1:Int) (Int.tmod (Aj .i64 x3) x0))) (Aj .i64 (Int.add (1:Int) (Int.tmod (Aj .i64 x4) x1))) ([(Sl.v 1 (Sl.mk 1 0 (Aq (1*1) (Am 0 ([(.int .i64 (0:Int))]:LV))))),(Sl.v 1 (Sl.mk 2 0 (Aq (2*1) (Am 0 ([(.int .i64 (0:Int)),(.int .i64 (2:Int))]:LV))))),(Sl.v 1 (Sl.mk 2 0 (Aq (2*1) (Am 0 ([(.int .i64 (0:Int)),(.int .i64 (4:Int))]:LV))))),(Sl.v 1 (Sl.mk 2 0 (Aq (2*1) (Am 0 ([(.int .i64 (0:Int)),(.int .i64 (5:Int))]:LV))))),(Sl.v 1 (Sl.mk 4 0 (Aq (4*1) (Am 0 ([(.int .i64 (0:Int)),(.int .i64 (2:Int)),(.int .i64 (4:Int)),(.int .i64 (5:Int))]:LV))))),(Sl.v 1 (Sl.mk 4 0 (Aq (4*1) (Am 0 ([(.int .i64 (0:Int)),(.int .i64 (1:Int)),(.int .i64 (2:Int)),(.int .i64 (3:Int))]:LV))))),(Sl.v 1 (Sl.mk 2 0 (Aq (2*1) (Am 0 ([(.int .i64 (0:Int)),(.int .i64 (6:Int))]:LV))))),(Sl.v 1 (Sl.mk 2 0 (Aq (2*1) (Am 0 ([(.int .i64 (0:Int)),(.int .i64 (7:Int))]:LV))))),(Sl.v 1 (Sl.mk 4 0 (Aq (4*1) (Am 0 ([(.int .i64 (0:Int)),(.int .i64 (2:Int)),(.int .i64 (6:Int)),(.int .i64 (7:Int))]:LV))))),(Sl.v 1 (Sl.mk 8 0 (Aq (8*1) (Am 0 ([(.int .i64 (0:Int)),(.int .i64 (1:Int)),(.int .i64 (2:Int)),(.int .i64 (3:Int)),(.int .i64 (4:Int)),(.int .i64 (5:Int)),(.int .i64 (6:Int)),(.int .i64 (7:Int))]:LV)))))]:LV)) (OZ pu n 10 21 (5:Int) q0 (0:Int) (0:Int) (0:Int) (Aj .i64 (Int.add (1:Int) (Int.tmod (Aj .i64 x2) x0))) (Aj .i64 (Int.add (1:Int) (Int.tmod (Aj .i64 x3) x0))) (Aj .i64 (Int.add (1:Int) (Int.tmod (Aj .i64 x4) x1))) ([(Sl.v 1 (Sl.mk 1 0 (Aq (1*1) (Am 0 ([(.int .i64 (0:Int))]:LV))))),(Sl.v 1 (Sl.mk 2 0 (Aq (2*1) (Am 0 ([(.int .i64 (0:Int)),(.int .i64 (2:Int))]:LV))))),(Sl.v 1 (Sl.mk 2 0 (Aq (2*1) (Am 0 ([(.int .i64 (0:Int)),(.int .i64 (4:Int))]:LV))))),(Sl.v 1 (Sl.mk 2 0 (Aq (2*1) (Am 0 ([(.int .i64 (0:Int)),(.int .i64 (5:Int))]:LV))))),(Sl.v 1 (Sl.mk 4 0 (Aq (4*1) (Am 0 ([(.int .i64 (0:Int)),(.int .i64 (2:Int)),(.int .i64 (4:Int)),(.int .i64 (5:Int))]:LV))))),(Sl.v 1 (Sl.mk 4 0 (Aq (4*1) (Am 0 ([(.int .i64 (0:Int)),(.int .i64 (1:Int)),(.int .i64 (2:Int)),(.int .i64 (3:Int))]:LV))))),(Sl.v 1 (Sl.mk 2 0 (Aq (2*1) (Am 0 ([(.int .i64 (0:Int)),(.int .i64 (6:Int))]:LV))))),(Sl.v 1 (Sl.mk 2 0 (Aq (2*1) (Am 0 ([(.int .i64 (0:Int)),(.int .i64 (7:Int))]:LV))))),(Sl.v 1 (Sl.mk 4 0 (Aq (4*1) (Am 0 ([(.int .i64 (0:Int)),(.int .i64 (2:Int)),(.int .i64 (6:Int)),(.int .i64 (7:Int))]:LV))))),(Sl.v 1 (Sl.mk 8 0 (Aq (8*1) (Am 0 ([(.int .i64 (0:Int)),(.int .i64 (1:Int)),(.int .i64 (2:Int)),(.int .i64 (3:Int)),(.int .i64 (4:Int)),(.int .i64 (5:Int)),(.int .i64 (6:Int)),(.int .i64 (7:Int))]:LV)))))]:LV))) none))) none))) none))) none)
def m9 (pu:Af) (n:Nat) (args:LV):OV:=
 (ll args none fun a0 args=>(ll args none fun a1 args=>(ll args none fun a2 args=>(ll args (oo (Bt a0) none fun q0=>(bb (an (Nat.beq (len q0) 20) (Au Ah q0)) (oo (Bi .i64 a1) none fun x0=>(oo (Bi .i64 a2) none fun x1=>(m9_ pu n q0 x0 x1))) none)) fun _ _=>none))))
theorem AeB (pu:Af) (n n0 c0:Nat) (z0 z1 z2 z3 z4 z5:Int) (s0:Sl) (q0:LV) {v:Value} (hm:bP pu n n0 c0 z0 z1 z2 z3 z4 z5 s0 q0=some v):BN tt (Bb tabs isP pu (inl pu)) 1 eQ (fr 79 [(6,pt 1 0),(8,(pt 2 0)),(11,sc 3 0 1 n0 c0)]) (hT 4 [(oC [zI z0,zI z1,zI z2,(.slice none 0 0)]),(oC [zI z3,zI z4,zI z5,Sl.v 1 s0]),oC q0]) (Fin tt 1 [.cell 6 27,.tmp 7] v):=by
 unfold bP at hm
 refine .then (.rK ?_)
 replace hm:=Ae hm;obtain⟨h0,hm⟩:=hm
 refine .ghs (fr 79 [(6,pt 1 0),(7,sc 2 0 1 n0 c0)]) (hT 3 [(oC [zI z3,zI z4,zI z5,Sl.v 1 s0]),oC q0]) (.k [3] [false] [.tmp 6 false,.tmp 7 false] [6,7] ⟨Bq h0,trivial⟩) ?_
 replace hm:=Ae hm;obtain⟨h1,hm⟩:=hm
 refine .ghs (Fr.puts (fr 79 [(6,pt 1 0),(7,sc 2 0 1 n0 c0)]) [(7,(Sl.v 1 (Sl.mk n0 0 (Aq (n0*1) (Am 0 q0)))))]) (hT 3 [(oC [zI z3,zI z4,zI z5,Sl.v 1 s0]),.dead]) (.freezeC 1 7 1 (an (Nat.ble (0+n0*1) (len q0)) (Au Ah (Aq (n0*1) (Am 0 q0)))) (F1:=(Fr.puts (fr 79 [(6,pt 1 0),(7,sc 2 0 1 n0 c0)]) [(7,(Sl.v 1 (Sl.mk n0 0 (Aq (n0*1) (Am 0 q0)))))])) (H1:=(hT 3 [(oC [zI z3,zI z4,zI z5,Sl.v 1 s0]),.dead])) (by kernel_rfl) (by kernel_rfl) h1 (E9.id _ _)) ?_
 refine .ret ?_
 exact A7 (.tuple ⟨[(.agg ⟨[zI z3,zI z4,zI z5,Sl.v 1 s0]⟩),(Sl.v 1 (Sl.mk n0 0 (Aq (n0*1) (Am 0 q0))))]⟩) hm
theorem AeC (pu:Af) (n n0 c0:Nat) (z0:Int) (q0:LV) (z1 z2 z3 z4 z5 z6:Int) (q1:LV) {v:Value} (hm:OZ pu n n0 c0 z0 q0 z1 z2 z3 z4 z5 z6 q1=some v):BN tt (Bb tabs isP pu (inl pu)) 1 eT (fr 79 [(3,pt 1 0),(6,(pt 2 0)),(8,(pt 3 0)),(9,sc 4 0 1 n0 c0),(10,zI z0)]) (hT 5 [oC q0,(oC [zI z1,zI z2,zI z3,(.slice none 0 0)]),(oC [zI z4,zI z5,zI z6,(.slice none 0 0)]),oC q1]) (Fin tt 1 [.cell 6 27,.tmp 7] v):=by
 unfold OZ at hm
 refine .then ?_
 replace hm:=Gp hm;obtain⟨x0,h0,hm⟩:=hm
 replace hm:=Ae hm;obtain⟨h1,hm⟩:=hm
 replace hm:=Ab hm;obtain⟨k1,h2,hm⟩:=hm
 replace hm:=Ae hm;obtain⟨h3,hm⟩:=hm
 replace hm:=X4 hm;obtain⟨s0,h4,hm⟩:=hm
 refine .reg (eC 2 (keep (hT 5 [oC q0,(oC [zI z1,zI z2,zI z3,(.slice none 0 0)]),(oC [zI z4,zI z5,zI z6,(.slice none 0 0)]),oC q1]) (AL q0 3)) (AZ h0) (eC 2 (keep (hT 5 [oC q0,(oC [zI z1,zI z2,zI z3,(.slice none 0 0)]),(oC [zI z4,zI z5,zI z6,(.slice none 0 0)]),oC q1]) (bb (Bd z0 (0:Int)) none (some (zI (Int.tmod (Aj .i64 x0) z0))))) (show _=some ((zI (Int.ofNat k1)),_) from (nat_eq (X:=(Int.tmod (Aj .i64 x0) z0)) (XH h1) h2)) (eD (keep (hT 5 [oC q0,(oC [zI z1,zI z2,zI z3,(.slice none 0 0)]),(oC [zI z4,zI z5,zI z6,(.slice none 0 0)]),oC q1]) (bb (an (Nat.blt k1 n0) true) (some (.pointer (some ⟨4,(0+k1*1),none⟩))) none)) (AX h3) (eD (keep (hT 5 [oC q0,(oC [zI z1,zI z2,zI z3,(.slice none 0 0)]),(oC [zI z4,zI z5,zI z6,(.slice none 0 0)]),oC q1]) (AL q1 (0+k1*1))) (AZ h4) (eE))))) ?_
 replace hm:=Ae hm;obtain⟨h5,hm⟩:=hm
 refine .ghs (fr 79 [(3,pt 1 0),(6,(pt 2 0)),(8,(pt 3 0))]) (hT 4 [oC q0,(oC [zI z1,zI z2,zI z3,(.slice none 0 0)]),(oC [zI z4,zI z5,zI z6,Sl.v 1 s0])]) (.k [1] [false] [.tmp 3 false,.tmp 6 false,.tmp 8 false] [3,6,8] ⟨Bq h5,trivial⟩) ?_
 refine .then (.rK (.ghs (fr 79 [(3,pt 1 0),(6,(pt 2 0)),(8,(pt 3 0)),(11,(.slice none 0 0))]) (hT 4 [oC q0,(oC [zI z1,zI z2,zI z3,(.slice none 0 0)]),(oC [zI z4,zI z5,zI z6,Sl.v 1 s0])]) (.k [1] [false] [.tmp 3 false,.tmp 6 false,.tmp 8 false] [3,6,8,11] ⟨Bq h5,trivial⟩) ?_))
 refine .join (v:=v) (fun y:Nat×Nat×Int×Int×Int×Int×Int×Int×Sl×LV=>((fr 79 [(6,pt 1 0),(8,(pt 2 0)),(11,(sc 3 0 1 y.1 y.2.1))]),(hT 4 [(oC [(zI y.2.2.1),(zI y.2.2.2.1),(zI y.2.2.2.2.1),(.slice none 0 0)]),(oC [(zI y.2.2.2.2.2.1),(zI y.2.2.2.2.2.2.1),(zI y.2.2.2.2.2.2.2.1),(Sl.v 1 y.2.2.2.2.2.2.2.2.1)]),(oC y.2.2.2.2.2.2.2.2.2)]))) (fun y=>bP pu n y.1 y.2.1 y.2.2.1 y.2.2.2.1 y.2.2.2.2.1 y.2.2.2.2.2.1 y.2.2.2.2.2.2.1 y.2.2.2.2.2.2.2.1 y.2.2.2.2.2.2.2.2.1 y.2.2.2.2.2.2.2.2.2) ?_ ?_
 ·rintro⟨n1,c1,z7,z8,z9,z10,z11,z12,s1,q2⟩ hm
  exact AeB pu n n1 c1 z7 z8 z9 z10 z11 z12 s1 q2 hm
 ·refine .then (.rK (.ghs (fr 79 [(3,pt 1 0),(6,(pt 2 0)),(8,(pt 3 0)),(11,(.slice none 0 0)),(61,(zI (Aj .i64 (Int.mul z4 z5)))),(62,(zI (0:Int)))]) (hT 4 [oC q0,(oC [zI z1,zI z2,zI z3,(.slice none 0 0)]),(oC [zI z4,zI z5,zI z6,Sl.v 1 s0])]) (.k [1] [false] [.tmp 3 false,.tmp 6 false,.tmp 8 false] [3,6,8,11,61,62] ⟨Bq h5,trivial⟩) ?_))
  refine .block (.loopM (v:=v) (fun y:Nat×Nat×Int×Int×LV×Int×Int×Int×Int×Int×Int×Sl×LV=>((fr 79 [(3,pt 1 0),(6,(pt 2 0)),(8,(pt 3 0)),(11,(sc 4 0 1 y.1 y.2.1)),(61,(zI y.2.2.1)),(62,(zI y.2.2.2.1))]),(hT 5 [(oC y.2.2.2.2.1),(oC [(zI y.2.2.2.2.2.1),(zI y.2.2.2.2.2.2.1),(zI y.2.2.2.2.2.2.2.1),(.slice none 0 0)]),(oC [(zI y.2.2.2.2.2.2.2.2.1),(zI y.2.2.2.2.2.2.2.2.2.1),(zI y.2.2.2.2.2.2.2.2.2.2.1),(Sl.v 1 y.2.2.2.2.2.2.2.2.2.2.2.1)]),(oC y.2.2.2.2.2.2.2.2.2.2.2.2)]))) (fun w y=>Sa pu n w y.1 y.2.1 y.2.2.1 y.2.2.2.1 y.2.2.2.2.1 y.2.2.2.2.2.1 y.2.2.2.2.2.2.1 y.2.2.2.2.2.2.2.1 y.2.2.2.2.2.2.2.2.1 y.2.2.2.2.2.2.2.2.2.1 y.2.2.2.2.2.2.2.2.2.2.1 y.2.2.2.2.2.2.2.2.2.2.2.1 y.2.2.2.2.2.2.2.2.2.2.2.2) n ⟨(0,0,(Aj .i64 (Int.mul z4 z5)),(0:Int),q0,z1,z2,z3,z4,z5,z6,s0,([]:LV)),hm,(.thaw 11 1 (by kernel_rfl) (.k [1] [false] [.tmp 3 false,.tmp 6 false,.tmp 8 false,.tmp 11 false] [3,6,8,11,61,62] ⟨Bq h5,trivial⟩))⟩ (fun _=>rfl) ?_)
  rintro w0 ⟨n2,c2,z13,z14,q3,z15,z16,z17,z18,z19,z20,s2,q5⟩ hm
  replace hm:tZ pu n (Sa pu n w0) n2 c2 z13 z14 q3 z15 z16 z17 z18 z19 z20 s2 q5=some v:=hm
  unfold tZ at hm
  refine .then (.rK ?_)
  replace hm:=Ae hm;obtain⟨h6,hm⟩:=hm
  replace hm:=Ae hm;obtain⟨h7,hm⟩:=hm
  refine .ghs (fr 79 [(3,pt 1 0),(6,(pt 2 0)),(8,(pt 3 0)),(11,sc 4 0 1 n2 c2),(61,zI z13),(62,zI z14),(63,(zB (AY z14 z13)))]) (hT 5 [oC q3,(oC [zI z15,zI z16,zI z17,(.slice none 0 0)]),(oC [zI z18,zI z19,zI z20,Sl.v 1 s2]),oC q5]) (.k [1,4] [false] [.tmp 3 false,.tmp 6 false,.tmp 8 false,.tmp 11 false] [3,6,8,11,61,62,63] ⟨Bq h6,Bq h7,trivial⟩) ?_
  refine .then ?_
  replace hm:=Ag hm;rcases hm with⟨h8,hm⟩ | ⟨h8,hm⟩
  ·refine BI (AY z14 z13) h8 ?_
   refine .skip (.ghs (fr 79 [(3,pt 1 0),(6,(pt 2 0)),(8,(pt 3 0)),(11,sc 4 0 1 n2 c2),(61,zI z13),(62,zI z14)]) (hT 5 [oC q3,(oC [zI z15,zI z16,zI z17,(.slice none 0 0)]),(oC [zI z18,zI z19,zI z20,Sl.v 1 s2]),oC q5]) (.k [1,4] [false] [.tmp 3 false,.tmp 6 false,.tmp 8 false,.tmp 11 false] [3,6,8,11,61,62] ⟨Bq h6,Bq h7,trivial⟩) ?_)
   refine .then (.block (.then (.rK (.ghs (fr 79 [(3,pt 1 0),(6,(pt 2 0)),(8,(pt 3 0)),(11,sc 4 0 1 n2 c2),(12,zI z14),(61,zI z13),(62,zI z14)]) (hT 5 [oC q3,(oC [zI z15,zI z16,zI z17,(.slice none 0 0)]),(oC [zI z18,zI z19,zI z20,Sl.v 1 s2]),oC q5]) (.k [1,4] [false] [.tmp 3 false,.tmp 6 false,.tmp 8 false,.tmp 11 false] [3,6,8,11,12,61,62] ⟨Bq h6,Bq h7,trivial⟩) ?_))))
   replace hm:=Ab hm;obtain⟨k2,h9,hm⟩:=hm
   obtain rfl:=AR h9
   replace hm:=Ae hm;obtain⟨h10,hm⟩:=hm
   replace hm:=Gp hm;obtain⟨x1,h11,hm⟩:=hm
   replace hm:=Ae hm;obtain⟨h12,hm⟩:=hm
   replace hm:=Ae hm;obtain⟨h13,hm⟩:=hm
   refine .reg (eC 3 (keep (hT 5 [oC q3,(oC [zI z15,zI z16,zI z17,(.slice none 0 0)]),(oC [zI z18,zI z19,zI z20,Sl.v 1 s2]),oC q5]) (bb (Nat.blt k2 16) (some (.pointer (some ⟨1,(4+k2*1),none⟩))) none)) (AX h10) (eD (keep (hT 5 [oC q3,(oC [zI z15,zI z16,zI z17,(.slice none 0 0)]),(oC [zI z18,zI z19,zI z20,Sl.v 1 s2]),oC q5]) (AL q3 (4+k2*1))) (AZ h11) (eC 3 (keep (hT 5 [oC q3,(oC [zI z15,zI z16,zI z17,(.slice none 0 0)]),(oC [zI z18,zI z19,zI z20,Sl.v 1 s2]),oC q5]) (bb (Bd z20 (0:Int)) none (some (zI (Int.tmod (Aj .i64 x1) z20))))) (XH h12) (eC 1 (Oc 1 8 n2 c2 1 4 q5 [(zI (Int.tmod (Aj .i64 x1) z20))] [] (hT 6 [oC q3,(oC [zI z15,zI z16,zI z17,(.slice none 0 0)]),(oC [zI z18,zI z19,zI z20,Sl.v 1 s2]),oC q5,(oC [(zI (Int.tmod (Aj .i64 x1) z20))])])) (I1 h13) (eE))))) ?_
   replace hm:=Ae hm;obtain⟨h14,hm⟩:=hm
   refine .ghs (fr 79 [(3,pt 1 0),(6,(pt 2 0)),(8,(pt 3 0)),(11,(sc 4 0 1 (n2+1) (d2 (n2+1)))),(61,zI z13),(62,(zI (Int.ofNat k2)))]) (hT 5 [oC q3,(oC [zI z15,zI z16,zI z17,(.slice none 0 0)]),(oC [zI z18,zI z19,zI z20,Sl.v 1 s2]),(oC (Br (Am 0 q5) [(zI (Int.tmod (Aj .i64 x1) z20))]))]) (.k [1,6] [false] [.tmp 3 false,.tmp 6 false,.tmp 8 false,.tmp 11 false] [3,6,8,11,61,62] ⟨Bq h6,Bq h14,trivial⟩) ?_
   refine .rK ?_
   exact⟨((n2+1),(d2 (n2+1)),z13,(Aj .i64 (Int.add (Int.ofNat k2) (1:Int))),q3,z15,z16,z17,z18,z19,z20,s2,(Br (Am 0 q5) [(zI (Int.tmod (Aj .i64 x1) z20))])),hm,(.k [1,4] [false] [.tmp 3 false,.tmp 6 false,.tmp 8 false,.tmp 11 false] [3,6,8,11,61,62] ⟨Bq h6,Bq h14,trivial⟩)⟩
  ·refine BO (AY z14 z13) h8 ?_
   refine .exit ?_
   exact⟨(n2,c2,z15,z16,z17,z18,z19,z20,s2,q5),hm,(.k [4] [false] [.tmp 6 false,.tmp 8 false,.tmp 11 false] [6,8,11] ⟨Bq h7,trivial⟩)⟩
theorem r9 {call:A8} (pu:Af) (n:Nat) (hcall:call=Bb tabs isP pu (inl pu)) {args:LV} {v:Value} (hm:m9 pu n args=some v) (_:∀ x∈args,closed2 x=true):args.length≤79∧BN tt call 1 UI (Fr.made 79 args) (Ao tabs) (Fin tt 1 [.cell 6 27,.tmp 7] v):=by
 subst hcall
 unfold m9 at hm
 replace hm:=Ad hm;obtain⟨a0,args_0,rfl,hm⟩:=hm
 replace hm:=Ad hm;obtain⟨a1,args_1,rfl,hm⟩:=hm
 replace hm:=Ad hm;obtain⟨a2,args_2,rfl,hm⟩:=hm
 replace hm:=AC hm;obtain⟨rfl,hm⟩:=hm
 replace hm:=BG hm;obtain⟨q0,rfl,hm⟩:=hm
 replace hm:=Ae hm;obtain⟨h0,hm⟩:=hm
 replace hm:=Ai hm;obtain⟨x0,rfl,hm⟩:=hm
 replace hm:=Ai hm;obtain⟨x1,rfl,hm⟩:=hm
 unfold m9_ at hm
 refine⟨by simp,?_⟩
 refine .same (F':=(fr 79 [(0,(.agg ⟨q0⟩)),(1,zI x0),(2,zI x1)])) (H':=Ay) (by kernel_rfl) (by kernel_rfl) ?_
 refine .then (.rK ?_)
 replace hm:=Ae hm;obtain⟨h1,hm⟩:=hm
 refine .ghs (fr 79 [(1,zI x0),(2,zI x1),(3,pt 1 0),(6,(pt 2 0))]) (hT 3 [oC q0,(oC [(zI (0:Int)),(zI (0:Int)),(zI (0:Int)),(.slice none 0 0)])]) (.k [1] [false] [.tmp 3 false,.tmp 6 false] [1,2,3,6] ⟨Bq h1,trivial⟩) ?_
 refine .then ?_
 replace hm:=Gp hm;obtain⟨x2,h2,hm⟩:=hm
 replace hm:=Ae hm;obtain⟨h3,hm⟩:=hm
 replace hm:=Gp hm;obtain⟨x3,h4,hm⟩:=hm
 replace hm:=Ae hm;obtain⟨h5,hm⟩:=hm
 replace hm:=Gp hm;obtain⟨x4,h6,hm⟩:=hm
 replace hm:=Ae hm;obtain⟨h7,hm⟩:=hm
 refine .reg (eN 8 (Fr.puts (fr 79 [(1,zI x0),(2,zI x1),(3,pt 1 0),(6,(pt 2 0))]) [(13,pt 1 0),(14,(zY x2)),(15,(zI (Aj .i64 x2))),(16,zI x0),(17,(zI (Int.tmod (Aj .i64 x2) x0))),(18,(zI (Aj .i64 (Int.add (1:Int) (Int.tmod (Aj .i64 x2) x0))))),(19,pt 1 1),(20,(zY x3))]) (hT 3 [oC q0,(oC [(zI (0:Int)),(zI (0:Int)),(zI (0:Int)),(.slice none 0 0)])]) (eC 1 (keep (hT 3 [oC q0,(oC [(zI (0:Int)),(zI (0:Int)),(zI (0:Int)),(.slice none 0 0)])]) (AL q0 0)) (AZ h2) (eC 2 (keep (hT 3 [oC q0,(oC [(zI (0:Int)),(zI (0:Int)),(zI (0:Int)),(.slice none 0 0)])]) (bb (Bd x0 (0:Int)) none (some (zI (Int.tmod (Aj .i64 x2) x0))))) (XH h3) (eC 2 (keep (hT 3 [oC q0,(oC [(zI (0:Int)),(zI (0:Int)),(zI (0:Int)),(.slice none 0 0)])]) (AL q0 1)) (AZ h4) (by kernel_rfl)))) (eC 2 (keep (hT 3 [oC q0,(oC [(zI (0:Int)),(zI (0:Int)),(zI (0:Int)),(.slice none 0 0)])]) (bb (Bd x0 (0:Int)) none (some (zI (Int.tmod (Aj .i64 x3) x0))))) (XH h5) (eC 2 (keep (hT 3 [oC q0,(oC [(zI (0:Int)),(zI (0:Int)),(zI (0:Int)),(.slice none 0 0)])]) (AL q0 2)) (AZ h6) (eC 2 (keep (hT 3 [oC q0,(oC [(zI (0:Int)),(zI (0:Int)),(zI (0:Int)),(.slice none 0 0)])]) (bb (Bd x1 (0:Int)) none (some (zI (Int.tmod (Aj .i64 x4) x1))))) (XH h7) (eE))))) ?_
 refine .ghs (fr 79 [(3,pt 1 0),(6,(pt 2 0)),(8,(pt 3 0))]) (hT 4 [oC q0,(oC [(zI (0:Int)),(zI (0:Int)),(zI (0:Int)),(.slice none 0 0)]),(oC [(zI (Aj .i64 (Int.add (1:Int) (Int.tmod (Aj .i64 x2) x0)))),(zI (Aj .i64 (Int.add (1:Int) (Int.tmod (Aj .i64 x3) x0)))),(zI (Aj .i64 (Int.add (1:Int) (Int.tmod (Aj .i64 x4) x1)))),(.slice none 0 0)])]) (.k [1] [false] [.tmp 3 false,.tmp 6 false,.tmp 8 false] [3,6,8] ⟨Bq h1,trivial⟩) ?_
 refine .then (.rG (NY.seg 10 (Fr.puts (fr 79 [(3,pt 1 0),(6,(pt 2 0)),(8,(pt 3 0))]) [(32,sc 4 0 1 1 3),(33,sc 5 0 1 2 5),(34,sc 6 0 1 2 5),(35,sc 7 0 1 2 5),(36,sc 8 0 1 4 9),(37,sc 9 0 1 4 9),(38,sc 10 0 1 2 5),(39,sc 11 0 1 2 5),(40,sc 12 0 1 4 9),(41,sc 13 0 1 8 17)]) (hT 14 [oC q0,(oC [(zI (0:Int)),(zI (0:Int)),(zI (0:Int)),(.slice none 0 0)]),(oC [(zI (Aj .i64 (Int.add (1:Int) (Int.tmod (Aj .i64 x2) x0)))),(zI (Aj .i64 (Int.add (1:Int) (Int.tmod (Aj .i64 x3) x0)))),(zI (Aj .i64 (Int.add (1:Int) (Int.tmod (Aj .i64 x4) x1)))),(.slice none 0 0)]),(oC [(zI (0:Int))]),(oC [(zI (0:Int)),(zI (2:Int))]),(oC [(zI (0:Int)),(zI (4:Int))]),(oC [(zI (0:Int)),(zI (5:Int))]),(oC [(zI (0:Int)),(zI (2:Int)),(zI (4:Int)),(zI (5:Int))]),(oC [(zI (0:Int)),(zI (1:Int)),(zI (2:Int)),(zI (3:Int))]),(oC [(zI (0:Int)),(zI (6:Int))]),(oC [(zI (0:Int)),(zI (7:Int))]),(oC [(zI (0:Int)),(zI (2:Int)),(zI (6:Int)),(zI (7:Int))]),(oC [(zI (0:Int)),(zI (1:Int)),(zI (2:Int)),(zI (3:Int)),(zI (4:Int)),(zI (5:Int)),(zI (6:Int)),(zI (7:Int))])]) (by kernel_rfl) (NY.ghs (Fr.puts (fr 79 [(3,pt 1 0),(6,(pt 2 0)),(8,(pt 3 0))]) [(33,sc 5 0 1 2 5),(34,sc 6 0 1 2 5),(35,sc 7 0 1 2 5),(36,sc 8 0 1 4 9),(37,sc 9 0 1 4 9),(38,sc 10 0 1 2 5),(39,sc 11 0 1 2 5),(40,sc 12 0 1 4 9),(41,sc 13 0 1 8 17),(32,(Sl.v 1 (Sl.mk 1 0 (Aq (1*1) (Am 0 ([(zI (0:Int))]:LV))))))]) (hT 14 [oC q0,(oC [(zI (0:Int)),(zI (0:Int)),(zI (0:Int)),(.slice none 0 0)]),(oC [(zI (Aj .i64 (Int.add (1:Int) (Int.tmod (Aj .i64 x2) x0)))),(zI (Aj .i64 (Int.add (1:Int) (Int.tmod (Aj .i64 x3) x0)))),(zI (Aj .i64 (Int.add (1:Int) (Int.tmod (Aj .i64 x4) x1)))),(.slice none 0 0)]),.dead,(oC [(zI (0:Int)),(zI (2:Int))]),(oC [(zI (0:Int)),(zI (4:Int))]),(oC [(zI (0:Int)),(zI (5:Int))]),(oC [(zI (0:Int)),(zI (2:Int)),(zI (4:Int)),(zI (5:Int))]),(oC [(zI (0:Int)),(zI (1:Int)),(zI (2:Int)),(zI (3:Int))]),(oC [(zI (0:Int)),(zI (6:Int))]),(oC [(zI (0:Int)),(zI (7:Int))]),(oC [(zI (0:Int)),(zI (2:Int)),(zI (6:Int)),(zI (7:Int))]),(oC [(zI (0:Int)),(zI (1:Int)),(zI (2:Int)),(zI (3:Int)),(zI (4:Int)),(zI (5:Int)),(zI (6:Int)),(zI (7:Int))])]) (.freeze 1 32 1 (by kernel_rfl) (by kernel_rfl) (E9.id _ _)) (NY.ghs (Fr.puts (fr 79 [(3,pt 1 0),(6,(pt 2 0)),(8,(pt 3 0))]) [(34,sc 6 0 1 2 5),(35,sc 7 0 1 2 5),(36,sc 8 0 1 4 9),(37,sc 9 0 1 4 9),(38,sc 10 0 1 2 5),(39,sc 11 0 1 2 5),(40,sc 12 0 1 4 9),(41,sc 13 0 1 8 17),(32,(Sl.v 1 (Sl.mk 1 0 (Aq (1*1) (Am 0 ([(zI (0:Int))]:LV)))))),(33,(Sl.v 1 (Sl.mk 2 0 (Aq (2*1) (Am 0 ([(zI (0:Int)),(zI (2:Int))]:LV))))))]) (hT 14 [oC q0,(oC [(zI (0:Int)),(zI (0:Int)),(zI (0:Int)),(.slice none 0 0)]),(oC [(zI (Aj .i64 (Int.add (1:Int) (Int.tmod (Aj .i64 x2) x0)))),(zI (Aj .i64 (Int.add (1:Int) (Int.tmod (Aj .i64 x3) x0)))),(zI (Aj .i64 (Int.add (1:Int) (Int.tmod (Aj .i64 x4) x1)))),(.slice none 0 0)]),.dead,.dead,(oC [(zI (0:Int)),(zI (4:Int))]),(oC [(zI (0:Int)),(zI (5:Int))]),(oC [(zI (0:Int)),(zI (2:Int)),(zI (4:Int)),(zI (5:Int))]),(oC [(zI (0:Int)),(zI (1:Int)),(zI (2:Int)),(zI (3:Int))]),(oC [(zI (0:Int)),(zI (6:Int))]),(oC [(zI (0:Int)),(zI (7:Int))]),(oC [(zI (0:Int)),(zI (2:Int)),(zI (6:Int)),(zI (7:Int))]),(oC [(zI (0:Int)),(zI (1:Int)),(zI (2:Int)),(zI (3:Int)),(zI (4:Int)),(zI (5:Int)),(zI (6:Int)),(zI (7:Int))])]) (.freeze 1 33 1 (by kernel_rfl) (by kernel_rfl) (E9.id _ _)) (NY.ghs (Fr.puts (fr 79 [(3,pt 1 0),(6,(pt 2 0)),(8,(pt 3 0))]) [(35,sc 7 0 1 2 5),(36,sc 8 0 1 4 9),(37,sc 9 0 1 4 9),(38,sc 10 0 1 2 5),(39,sc 11 0 1 2 5),(40,sc 12 0 1 4 9),(41,sc 13 0 1 8 17),(32,(Sl.v 1 (Sl.mk 1 0 (Aq (1*1) (Am 0 ([(zI (0:Int))]:LV)))))),(33,(Sl.v 1 (Sl.mk 2 0 (Aq (2*1) (Am 0 ([(zI (0:Int)),(zI (2:Int))]:LV)))))),(34,(Sl.v 1 (Sl.mk 2 0 (Aq (2*1) (Am 0 ([(zI (0:Int)),(zI (4:Int))]:LV))))))]) (hT 14 [oC q0,(oC [(zI (0:Int)),(zI (0:Int)),(zI (0:Int)),(.slice none 0 0)]),(oC [(zI (Aj .i64 (Int.add (1:Int) (Int.tmod (Aj .i64 x2) x0)))),(zI (Aj .i64 (Int.add (1:Int) (Int.tmod (Aj .i64 x3) x0)))),(zI (Aj .i64 (Int.add (1:Int) (Int.tmod (Aj .i64 x4) x1)))),(.slice none 0 0)]),.dead,.dead,.dead,(oC [(zI (0:Int)),(zI (5:Int))]),(oC [(zI (0:Int)),(zI (2:Int)),(zI (4:Int)),(zI (5:Int))]),(oC [(zI (0:Int)),(zI (1:Int)),(zI (2:Int)),(zI (3:Int))]),(oC [(zI (0:Int)),(zI (6:Int))]),(oC [(zI (0:Int)),(zI (7:Int))]),(oC [(zI (0:Int)),(zI (2:Int)),(zI (6:Int)),(zI (7:Int))]),(oC [(zI (0:Int)),(zI (1:Int)),(zI (2:Int)),(zI (3:Int)),(zI (4:Int)),(zI (5:Int)),(zI (6:Int)),(zI (7:Int))])]) (.freeze 1 34 1 (by kernel_rfl) (by kernel_rfl) (E9.id _ _)) (NY.ghs (Fr.puts (fr 79 [(3,pt 1 0),(6,(pt 2 0)),(8,(pt 3 0))]) [(36,sc 8 0 1 4 9),(37,sc 9 0 1 4 9),(38,sc 10 0 1 2 5),(39,sc 11 0 1 2 5),(40,sc 12 0 1 4 9),(41,sc 13 0 1 8 17),(32,(Sl.v 1 (Sl.mk 1 0 (Aq (1*1) (Am 0 ([(zI (0:Int))]:LV)))))),(33,(Sl.v 1 (Sl.mk 2 0 (Aq (2*1) (Am 0 ([(zI (0:Int)),(zI (2:Int))]:LV)))))),(34,(Sl.v 1 (Sl.mk 2 0 (Aq (2*1) (Am 0 ([(zI (0:Int)),(zI (4:Int))]:LV)))))),(35,(Sl.v 1 (Sl.mk 2 0 (Aq (2*1) (Am 0 ([(zI (0:Int)),(zI (5:Int))]:LV))))))]) (hT 14 [oC q0,(oC [(zI (0:Int)),(zI (0:Int)),(zI (0:Int)),(.slice none 0 0)]),(oC [(zI (Aj .i64 (Int.add (1:Int) (Int.tmod (Aj .i64 x2) x0)))),(zI (Aj .i64 (Int.add (1:Int) (Int.tmod (Aj .i64 x3) x0)))),(zI (Aj .i64 (Int.add (1:Int) (Int.tmod (Aj .i64 x4) x1)))),(.slice none 0 0)]),.dead,.dead,.dead,.dead,(oC [(zI (0:Int)),(zI (2:Int)),(zI (4:Int)),(zI (5:Int))]),(oC [(zI (0:Int)),(zI (1:Int)),(zI (2:Int)),(zI (3:Int))]),(oC [(zI (0:Int)),(zI (6:Int))]),(oC [(zI (0:Int)),(zI (7:Int))]),(oC [(zI (0:Int)),(zI (2:Int)),(zI (6:Int)),(zI (7:Int))]),(oC [(zI (0:Int)),(zI (1:Int)),(zI (2:Int)),(zI (3:Int)),(zI (4:Int)),(zI (5:Int)),(zI (6:Int)),(zI (7:Int))])]) (.freeze 1 35 1 (by kernel_rfl) (by kernel_rfl) (E9.id _ _)) (NY.ghs (Fr.puts (fr 79 [(3,pt 1 0),(6,(pt 2 0)),(8,(pt 3 0))]) [(37,sc 9 0 1 4 9),(38,sc 10 0 1 2 5),(39,sc 11 0 1 2 5),(40,sc 12 0 1 4 9),(41,sc 13 0 1 8 17),(32,(Sl.v 1 (Sl.mk 1 0 (Aq (1*1) (Am 0 ([(zI (0:Int))]:LV)))))),(33,(Sl.v 1 (Sl.mk 2 0 (Aq (2*1) (Am 0 ([(zI (0:Int)),(zI (2:Int))]:LV)))))),(34,(Sl.v 1 (Sl.mk 2 0 (Aq (2*1) (Am 0 ([(zI (0:Int)),(zI (4:Int))]:LV)))))),(35,(Sl.v 1 (Sl.mk 2 0 (Aq (2*1) (Am 0 ([(zI (0:Int)),(zI (5:Int))]:LV)))))),(36,(Sl.v 1 (Sl.mk 4 0 (Aq (4*1) (Am 0 ([(zI (0:Int)),(zI (2:Int)),(zI (4:Int)),(zI (5:Int))]:LV))))))]) (hT 14 [oC q0,(oC [(zI (0:Int)),(zI (0:Int)),(zI (0:Int)),(.slice none 0 0)]),(oC [(zI (Aj .i64 (Int.add (1:Int) (Int.tmod (Aj .i64 x2) x0)))),(zI (Aj .i64 (Int.add (1:Int) (Int.tmod (Aj .i64 x3) x0)))),(zI (Aj .i64 (Int.add (1:Int) (Int.tmod (Aj .i64 x4) x1)))),(.slice none 0 0)]),.dead,.dead,.dead,.dead,.dead,(oC [(zI (0:Int)),(zI (1:Int)),(zI (2:Int)),(zI (3:Int))]),(oC [(zI (0:Int)),(zI (6:Int))]),(oC [(zI (0:Int)),(zI (7:Int))]),(oC [(zI (0:Int)),(zI (2:Int)),(zI (6:Int)),(zI (7:Int))]),(oC [(zI (0:Int)),(zI (1:Int)),(zI (2:Int)),(zI (3:Int)),(zI (4:Int)),(zI (5:Int)),(zI (6:Int)),(zI (7:Int))])]) (.freeze 1 36 1 (by kernel_rfl) (by kernel_rfl) (E9.id _ _)) (NY.ghs (Fr.puts (fr 79 [(3,pt 1 0),(6,(pt 2 0)),(8,(pt 3 0))]) [(38,sc 10 0 1 2 5),(39,sc 11 0 1 2 5),(40,sc 12 0 1 4 9),(41,sc 13 0 1 8 17),(32,(Sl.v 1 (Sl.mk 1 0 (Aq (1*1) (Am 0 ([(zI (0:Int))]:LV)))))),(33,(Sl.v 1 (Sl.mk 2 0 (Aq (2*1) (Am 0 ([(zI (0:Int)),(zI (2:Int))]:LV)))))),(34,(Sl.v 1 (Sl.mk 2 0 (Aq (2*1) (Am 0 ([(zI (0:Int)),(zI (4:Int))]:LV)))))),(35,(Sl.v 1 (Sl.mk 2 0 (Aq (2*1) (Am 0 ([(zI (0:Int)),(zI (5:Int))]:LV)))))),(36,(Sl.v 1 (Sl.mk 4 0 (Aq (4*1) (Am 0 ([(zI (0:Int)),(zI (2:Int)),(zI (4:Int)),(zI (5:Int))]:LV)))))),(37,(Sl.v 1 (Sl.mk 4 0 (Aq (4*1) (Am 0 ([(zI (0:Int)),(zI (1:Int)),(zI (2:Int)),(zI (3:Int))]:LV))))))]) (hT 14 [oC q0,(oC [(zI (0:Int)),(zI (0:Int)),(zI (0:Int)),(.slice none 0 0)]),(oC [(zI (Aj .i64 (Int.add (1:Int) (Int.tmod (Aj .i64 x2) x0)))),(zI (Aj .i64 (Int.add (1:Int) (Int.tmod (Aj .i64 x3) x0)))),(zI (Aj .i64 (Int.add (1:Int) (Int.tmod (Aj .i64 x4) x1)))),(.slice none 0 0)]),.dead,.dead,.dead,.dead,.dead,.dead,(oC [(zI (0:Int)),(zI (6:Int))]),(oC [(zI (0:Int)),(zI (7:Int))]),(oC [(zI (0:Int)),(zI (2:Int)),(zI (6:Int)),(zI (7:Int))]),(oC [(zI (0:Int)),(zI (1:Int)),(zI (2:Int)),(zI (3:Int)),(zI (4:Int)),(zI (5:Int)),(zI (6:Int)),(zI (7:Int))])]) (.freeze 1 37 1 (by kernel_rfl) (by kernel_rfl) (E9.id _ _)) (NY.ghs (Fr.puts (fr 79 [(3,pt 1 0),(6,(pt 2 0)),(8,(pt 3 0))]) [(39,sc 11 0 1 2 5),(40,sc 12 0 1 4 9),(41,sc 13 0 1 8 17),(32,(Sl.v 1 (Sl.mk 1 0 (Aq (1*1) (Am 0 ([(zI (0:Int))]:LV)))))),(33,(Sl.v 1 (Sl.mk 2 0 (Aq (2*1) (Am 0 ([(zI (0:Int)),(zI (2:Int))]:LV)))))),(34,(Sl.v 1 (Sl.mk 2 0 (Aq (2*1) (Am 0 ([(zI (0:Int)),(zI (4:Int))]:LV)))))),(35,(Sl.v 1 (Sl.mk 2 0 (Aq (2*1) (Am 0 ([(zI (0:Int)),(zI (5:Int))]:LV)))))),(36,(Sl.v 1 (Sl.mk 4 0 (Aq (4*1) (Am 0 ([(zI (0:Int)),(zI (2:Int)),(zI (4:Int)),(zI (5:Int))]:LV)))))),(37,(Sl.v 1 (Sl.mk 4 0 (Aq (4*1) (Am 0 ([(zI (0:Int)),(zI (1:Int)),(zI (2:Int)),(zI (3:Int))]:LV)))))),(38,(Sl.v 1 (Sl.mk 2 0 (Aq (2*1) (Am 0 ([(zI (0:Int)),(zI (6:Int))]:LV))))))]) (hT 14 [oC q0,(oC [(zI (0:Int)),(zI (0:Int)),(zI (0:Int)),(.slice none 0 0)]),(oC [(zI (Aj .i64 (Int.add (1:Int) (Int.tmod (Aj .i64 x2) x0)))),(zI (Aj .i64 (Int.add (1:Int) (Int.tmod (Aj .i64 x3) x0)))),(zI (Aj .i64 (Int.add (1:Int) (Int.tmod (Aj .i64 x4) x1)))),(.slice none 0 0)]),.dead,.dead,.dead,.dead,.dead,.dead,.dead,(oC [(zI (0:Int)),(zI (7:Int))]),(oC [(zI (0:Int)),(zI (2:Int)),(zI (6:Int)),(zI (7:Int))]),(oC [(zI (0:Int)),(zI (1:Int)),(zI (2:Int)),(zI (3:Int)),(zI (4:Int)),(zI (5:Int)),(zI (6:Int)),(zI (7:Int))])]) (.freeze 1 38 1 (by kernel_rfl) (by kernel_rfl) (E9.id _ _)) (NY.ghs (Fr.puts (fr 79 [(3,pt 1 0),(6,(pt 2 0)),(8,(pt 3 0))]) [(40,sc 12 0 1 4 9),(41,sc 13 0 1 8 17),(32,(Sl.v 1 (Sl.mk 1 0 (Aq (1*1) (Am 0 ([(zI (0:Int))]:LV)))))),(33,(Sl.v 1 (Sl.mk 2 0 (Aq (2*1) (Am 0 ([(zI (0:Int)),(zI (2:Int))]:LV)))))),(34,(Sl.v 1 (Sl.mk 2 0 (Aq (2*1) (Am 0 ([(zI (0:Int)),(zI (4:Int))]:LV)))))),(35,(Sl.v 1 (Sl.mk 2 0 (Aq (2*1) (Am 0 ([(zI (0:Int)),(zI (5:Int))]:LV)))))),(36,(Sl.v 1 (Sl.mk 4 0 (Aq (4*1) (Am 0 ([(zI (0:Int)),(zI (2:Int)),(zI (4:Int)),(zI (5:Int))]:LV)))))),(37,(Sl.v 1 (Sl.mk 4 0 (Aq (4*1) (Am 0 ([(zI (0:Int)),(zI (1:Int)),(zI (2:Int)),(zI (3:Int))]:LV)))))),(38,(Sl.v 1 (Sl.mk 2 0 (Aq (2*1) (Am 0 ([(zI (0:Int)),(zI (6:Int))]:LV)))))),(39,(Sl.v 1 (Sl.mk 2 0 (Aq (2*1) (Am 0 ([(zI (0:Int)),(zI (7:Int))]:LV))))))]) (hT 14 [oC q0,(oC [(zI (0:Int)),(zI (0:Int)),(zI (0:Int)),(.slice none 0 0)]),(oC [(zI (Aj .i64 (Int.add (1:Int) (Int.tmod (Aj .i64 x2) x0)))),(zI (Aj .i64 (Int.add (1:Int) (Int.tmod (Aj .i64 x3) x0)))),(zI (Aj .i64 (Int.add (1:Int) (Int.tmod (Aj .i64 x4) x1)))),(.slice none 0 0)]),.dead,.dead,.dead,.dead,.dead,.dead,.dead,.dead,(oC [(zI (0:Int)),(zI (2:Int)),(zI (6:Int)),(zI (7:Int))]),(oC [(zI (0:Int)),(zI (1:Int)),(zI (2:Int)),(zI (3:Int)),(zI (4:Int)),(zI (5:Int)),(zI (6:Int)),(zI (7:Int))])]) (.freeze 1 39 1 (by kernel_rfl) (by kernel_rfl) (E9.id _ _)) (NY.ghs (Fr.puts (fr 79 [(3,pt 1 0),(6,(pt 2 0)),(8,(pt 3 0))]) [(41,sc 13 0 1 8 17),(32,(Sl.v 1 (Sl.mk 1 0 (Aq (1*1) (Am 0 ([(zI (0:Int))]:LV)))))),(33,(Sl.v 1 (Sl.mk 2 0 (Aq (2*1) (Am 0 ([(zI (0:Int)),(zI (2:Int))]:LV)))))),(34,(Sl.v 1 (Sl.mk 2 0 (Aq (2*1) (Am 0 ([(zI (0:Int)),(zI (4:Int))]:LV)))))),(35,(Sl.v 1 (Sl.mk 2 0 (Aq (2*1) (Am 0 ([(zI (0:Int)),(zI (5:Int))]:LV)))))),(36,(Sl.v 1 (Sl.mk 4 0 (Aq (4*1) (Am 0 ([(zI (0:Int)),(zI (2:Int)),(zI (4:Int)),(zI (5:Int))]:LV)))))),(37,(Sl.v 1 (Sl.mk 4 0 (Aq (4*1) (Am 0 ([(zI (0:Int)),(zI (1:Int)),(zI (2:Int)),(zI (3:Int))]:LV)))))),(38,(Sl.v 1 (Sl.mk 2 0 (Aq (2*1) (Am 0 ([(zI (0:Int)),(zI (6:Int))]:LV)))))),(39,(Sl.v 1 (Sl.mk 2 0 (Aq (2*1) (Am 0 ([(zI (0:Int)),(zI (7:Int))]:LV)))))),(40,(Sl.v 1 (Sl.mk 4 0 (Aq (4*1) (Am 0 ([(zI (0:Int)),(zI (2:Int)),(zI (6:Int)),(zI (7:Int))]:LV))))))]) (hT 14 [oC q0,(oC [(zI (0:Int)),(zI (0:Int)),(zI (0:Int)),(.slice none 0 0)]),(oC [(zI (Aj .i64 (Int.add (1:Int) (Int.tmod (Aj .i64 x2) x0)))),(zI (Aj .i64 (Int.add (1:Int) (Int.tmod (Aj .i64 x3) x0)))),(zI (Aj .i64 (Int.add (1:Int) (Int.tmod (Aj .i64 x4) x1)))),(.slice none 0 0)]),.dead,.dead,.dead,.dead,.dead,.dead,.dead,.dead,.dead,(oC [(zI (0:Int)),(zI (1:Int)),(zI (2:Int)),(zI (3:Int)),(zI (4:Int)),(zI (5:Int)),(zI (6:Int)),(zI (7:Int))])]) (.freeze 1 40 1 (by kernel_rfl) (by kernel_rfl) (E9.id _ _)) (NY.ghs (Fr.puts (fr 79 [(3,pt 1 0),(6,(pt 2 0)),(8,(pt 3 0))]) [(32,(Sl.v 1 (Sl.mk 1 0 (Aq (1*1) (Am 0 ([(zI (0:Int))]:LV)))))),(33,(Sl.v 1 (Sl.mk 2 0 (Aq (2*1) (Am 0 ([(zI (0:Int)),(zI (2:Int))]:LV)))))),(34,(Sl.v 1 (Sl.mk 2 0 (Aq (2*1) (Am 0 ([(zI (0:Int)),(zI (4:Int))]:LV)))))),(35,(Sl.v 1 (Sl.mk 2 0 (Aq (2*1) (Am 0 ([(zI (0:Int)),(zI (5:Int))]:LV)))))),(36,(Sl.v 1 (Sl.mk 4 0 (Aq (4*1) (Am 0 ([(zI (0:Int)),(zI (2:Int)),(zI (4:Int)),(zI (5:Int))]:LV)))))),(37,(Sl.v 1 (Sl.mk 4 0 (Aq (4*1) (Am 0 ([(zI (0:Int)),(zI (1:Int)),(zI (2:Int)),(zI (3:Int))]:LV)))))),(38,(Sl.v 1 (Sl.mk 2 0 (Aq (2*1) (Am 0 ([(zI (0:Int)),(zI (6:Int))]:LV)))))),(39,(Sl.v 1 (Sl.mk 2 0 (Aq (2*1) (Am 0 ([(zI (0:Int)),(zI (7:Int))]:LV)))))),(40,(Sl.v 1 (Sl.mk 4 0 (Aq (4*1) (Am 0 ([(zI (0:Int)),(zI (2:Int)),(zI (6:Int)),(zI (7:Int))]:LV)))))),(41,(Sl.v 1 (Sl.mk 8 0 (Aq (8*1) (Am 0 ([(zI (0:Int)),(zI (1:Int)),(zI (2:Int)),(zI (3:Int)),(zI (4:Int)),(zI (5:Int)),(zI (6:Int)),(zI (7:Int))]:LV))))))]) (hT 14 [oC q0,(oC [(zI (0:Int)),(zI (0:Int)),(zI (0:Int)),(.slice none 0 0)]),(oC [(zI (Aj .i64 (Int.add (1:Int) (Int.tmod (Aj .i64 x2) x0)))),(zI (Aj .i64 (Int.add (1:Int) (Int.tmod (Aj .i64 x3) x0)))),(zI (Aj .i64 (Int.add (1:Int) (Int.tmod (Aj .i64 x4) x1)))),(.slice none 0 0)]),.dead,.dead,.dead,.dead,.dead,.dead,.dead,.dead,.dead,.dead]) (.freeze 1 41 1 (by kernel_rfl) (by kernel_rfl) (E9.id _ _)) (NY.fin eE)))))))))))) ?_)
 refine .ghs (fr 79 [(3,pt 1 0),(6,(pt 2 0)),(8,(pt 3 0)),(9,sc 4 0 1 10 21)]) (hT 5 [oC q0,(oC [(zI (0:Int)),(zI (0:Int)),(zI (0:Int)),(.slice none 0 0)]),(oC [(zI (Aj .i64 (Int.add (1:Int) (Int.tmod (Aj .i64 x2) x0)))),(zI (Aj .i64 (Int.add (1:Int) (Int.tmod (Aj .i64 x3) x0)))),(zI (Aj .i64 (Int.add (1:Int) (Int.tmod (Aj .i64 x4) x1)))),(.slice none 0 0)]),(oC [(Sl.v 1 (Sl.mk 1 0 (Aq (1*1) (Am 0 ([(zI (0:Int))]:LV))))),(Sl.v 1 (Sl.mk 2 0 (Aq (2*1) (Am 0 ([(zI (0:Int)),(zI (2:Int))]:LV))))),(Sl.v 1 (Sl.mk 2 0 (Aq (2*1) (Am 0 ([(zI (0:Int)),(zI (4:Int))]:LV))))),(Sl.v 1 (Sl.mk 2 0 (Aq (2*1) (Am 0 ([(zI (0:Int)),(zI (5:Int))]:LV))))),(Sl.v 1 (Sl.mk 4 0 (Aq (4*1) (Am 0 ([(zI (0:Int)),(zI (2:Int)),(zI (4:Int)),(zI (5:Int))]:LV))))),(Sl.v 1 (Sl.mk 4 0 (Aq (4*1) (Am 0 ([(zI (0:Int)),(zI (1:Int)),(zI (2:Int)),(zI (3:Int))]:LV))))),(Sl.v 1 (Sl.mk 2 0 (Aq (2*1) (Am 0 ([(zI (0:Int)),(zI (6:Int))]:LV))))),(Sl.v 1 (Sl.mk 2 0 (Aq (2*1) (Am 0 ([(zI (0:Int)),(zI (7:Int))]:LV))))),(Sl.v 1 (Sl.mk 4 0 (Aq (4*1) (Am 0 ([(zI (0:Int)),(zI (2:Int)),(zI (6:Int)),(zI (7:Int))]:LV))))),(Sl.v 1 (Sl.mk 8 0 (Aq (8*1) (Am 0 ([(zI (0:Int)),(zI (1:Int)),(zI (2:Int)),(zI (3:Int)),(zI (4:Int)),(zI (5:Int)),(zI (6:Int)),(zI (7:Int))]:LV)))))])]) (.k [1] [false] [.tmp 3 false,.tmp 6 false,.tmp 8 false,.tmp 9 false] [3,6,8,9] ⟨Bq h1,trivial⟩) ?_
 refine .then (.rK (.ghs (fr 79 [(3,pt 1 0),(6,(pt 2 0)),(8,(pt 3 0)),(9,sc 4 0 1 10 21),(10,(zI (5:Int)))]) (hT 5 [oC q0,(oC [(zI (0:Int)),(zI (0:Int)),(zI (0:Int)),(.slice none 0 0)]),(oC [(zI (Aj .i64 (Int.add (1:Int) (Int.tmod (Aj .i64 x2) x0)))),(zI (Aj .i64 (Int.add (1:Int) (Int.tmod (Aj .i64 x3) x0)))),(zI (Aj .i64 (Int.add (1:Int) (Int.tmod (Aj .i64 x4) x1)))),(.slice none 0 0)]),(oC [(Sl.v 1 (Sl.mk 1 0 (Aq (1*1) (Am 0 ([(zI (0:Int))]:LV))))),(Sl.v 1 (Sl.mk 2 0 (Aq (2*1) (Am 0 ([(zI (0:Int)),(zI (2:Int))]:LV))))),(Sl.v 1 (Sl.mk 2 0 (Aq (2*1) (Am 0 ([(zI (0:Int)),(zI (4:Int))]:LV))))),(Sl.v 1 (Sl.mk 2 0 (Aq (2*1) (Am 0 ([(zI (0:Int)),(zI (5:Int))]:LV))))),(Sl.v 1 (Sl.mk 4 0 (Aq (4*1) (Am 0 ([(zI (0:Int)),(zI (2:Int)),(zI (4:Int)),(zI (5:Int))]:LV))))),(Sl.v 1 (Sl.mk 4 0 (Aq (4*1) (Am 0 ([(zI (0:Int)),(zI (1:Int)),(zI (2:Int)),(zI (3:Int))]:LV))))),(Sl.v 1 (Sl.mk 2 0 (Aq (2*1) (Am 0 ([(zI (0:Int)),(zI (6:Int))]:LV))))),(Sl.v 1 (Sl.mk 2 0 (Aq (2*1) (Am 0 ([(zI (0:Int)),(zI (7:Int))]:LV))))),(Sl.v 1 (Sl.mk 4 0 (Aq (4*1) (Am 0 ([(zI (0:Int)),(zI (2:Int)),(zI (6:Int)),(zI (7:Int))]:LV))))),(Sl.v 1 (Sl.mk 8 0 (Aq (8*1) (Am 0 ([(zI (0:Int)),(zI (1:Int)),(zI (2:Int)),(zI (3:Int)),(zI (4:Int)),(zI (5:Int)),(zI (6:Int)),(zI (7:Int))]:LV)))))])]) (.k [1] [false] [.tmp 3 false,.tmp 6 false,.tmp 8 false,.tmp 9 false] [3,6,8,9,10] ⟨Bq h1,trivial⟩) ?_))
 refine .join (v:=v) (fun y:Nat×Nat×Int×LV×Int×Int×Int×Int×Int×Int×LV=>((fr 79 [(3,pt 1 0),(6,(pt 2 0)),(8,(pt 3 0)),(9,(sc 4 0 1 y.1 y.2.1)),(10,(zI y.2.2.1))]),(hT 5 [(oC y.2.2.2.1),(oC [(zI y.2.2.2.2.1),(zI y.2.2.2.2.2.1),(zI y.2.2.2.2.2.2.1),(.slice none 0 0)]),(oC [(zI y.2.2.2.2.2.2.2.1),(zI y.2.2.2.2.2.2.2.2.1),(zI y.2.2.2.2.2.2.2.2.2.1),(.slice none 0 0)]),(oC y.2.2.2.2.2.2.2.2.2.2)]))) (fun y=>OZ pu n y.1 y.2.1 y.2.2.1 y.2.2.2.1 y.2.2.2.2.1 y.2.2.2.2.2.1 y.2.2.2.2.2.2.1 y.2.2.2.2.2.2.2.1 y.2.2.2.2.2.2.2.2.1 y.2.2.2.2.2.2.2.2.2.1 y.2.2.2.2.2.2.2.2.2.2) ?_ ?_
 ·rintro⟨n0,c0,z0,q1,z1,z2,z3,z4,z5,z6,q2⟩ hm
  exact AeC pu n n0 c0 z0 q1 z1 z2 z3 z4 z5 z6 q2 hm
 ·refine .then (.rK (.ghs (fr 79 [(3,pt 1 0),(6,(pt 2 0)),(8,(pt 3 0)),(9,sc 4 0 1 10 21),(10,(zI (5:Int))),(47,(zB (Bd (Aj .i64 (Int.add (1:Int) (Int.tmod (Aj .i64 x2) x0))) (Aj .i64 (Int.add (1:Int) (Int.tmod (Aj .i64 x3) x0))))))]) (hT 5 [oC q0,(oC [(zI (0:Int)),(zI (0:Int)),(zI (0:Int)),(.slice none 0 0)]),(oC [(zI (Aj .i64 (Int.add (1:Int) (Int.tmod (Aj .i64 x2) x0)))),(zI (Aj .i64 (Int.add (1:Int) (Int.tmod (Aj .i64 x3) x0)))),(zI (Aj .i64 (Int.add (1:Int) (Int.tmod (Aj .i64 x4) x1)))),(.slice none 0 0)]),(oC [(Sl.v 1 (Sl.mk 1 0 (Aq (1*1) (Am 0 ([(zI (0:Int))]:LV))))),(Sl.v 1 (Sl.mk 2 0 (Aq (2*1) (Am 0 ([(zI (0:Int)),(zI (2:Int))]:LV))))),(Sl.v 1 (Sl.mk 2 0 (Aq (2*1) (Am 0 ([(zI (0:Int)),(zI (4:Int))]:LV))))),(Sl.v 1 (Sl.mk 2 0 (Aq (2*1) (Am 0 ([(zI (0:Int)),(zI (5:Int))]:LV))))),(Sl.v 1 (Sl.mk 4 0 (Aq (4*1) (Am 0 ([(zI (0:Int)),(zI (2:Int)),(zI (4:Int)),(zI (5:Int))]:LV))))),(Sl.v 1 (Sl.mk 4 0 (Aq (4*1) (Am 0 ([(zI (0:Int)),(zI (1:Int)),(zI (2:Int)),(zI (3:Int))]:LV))))),(Sl.v 1 (Sl.mk 2 0 (Aq (2*1) (Am 0 ([(zI (0:Int)),(zI (6:Int))]:LV))))),(Sl.v 1 (Sl.mk 2 0 (Aq (2*1) (Am 0 ([(zI (0:Int)),(zI (7:Int))]:LV))))),(Sl.v 1 (Sl.mk 4 0 (Aq (4*1) (Am 0 ([(zI (0:Int)),(zI (2:Int)),(zI (6:Int)),(zI (7:Int))]:LV))))),(Sl.v 1 (Sl.mk 8 0 (Aq (8*1) (Am 0 ([(zI (0:Int)),(zI (1:Int)),(zI (2:Int)),(zI (3:Int)),(zI (4:Int)),(zI (5:Int)),(zI (6:Int)),(zI (7:Int))]:LV)))))])]) (.k [1] [false] [.tmp 3 false,.tmp 6 false,.tmp 8 false,.tmp 9 false] [3,6,8,9,10,47] ⟨Bq h1,trivial⟩) ?_))
  replace hm:=Ag hm;rcases hm with⟨h8,hm⟩ | ⟨h8,hm⟩
  ·refine BI (Bd (Aj .i64 (Int.add (1:Int) (Int.tmod (Aj .i64 x2) x0))) (Aj .i64 (Int.add (1:Int) (Int.tmod (Aj .i64 x3) x0)))) h8 ?_
   refine .rK ?_
   exact⟨(10,21,(10:Int),q0,(0:Int),(0:Int),(0:Int),(Aj .i64 (Int.add (1:Int) (Int.tmod (Aj .i64 x2) x0))),(Aj .i64 (Int.add (1:Int) (Int.tmod (Aj .i64 x3) x0))),(Aj .i64 (Int.add (1:Int) (Int.tmod (Aj .i64 x4) x1))),([(Sl.v 1 (Sl.mk 1 0 (Aq (1*1) (Am 0 ([(zI (0:Int))]:LV))))),(Sl.v 1 (Sl.mk 2 0 (Aq (2*1) (Am 0 ([(zI (0:Int)),(zI (2:Int))]:LV))))),(Sl.v 1 (Sl.mk 2 0 (Aq (2*1) (Am 0 ([(zI (0:Int)),(zI (4:Int))]:LV))))),(Sl.v 1 (Sl.mk 2 0 (Aq (2*1) (Am 0 ([(zI (0:Int)),(zI (5:Int))]:LV))))),(Sl.v 1 (Sl.mk 4 0 (Aq (4*1) (Am 0 ([(zI (0:Int)),(zI (2:Int)),(zI (4:Int)),(zI (5:Int))]:LV))))),(Sl.v 1 (Sl.mk 4 0 (Aq (4*1) (Am 0 ([(zI (0:Int)),(zI (1:Int)),(zI (2:Int)),(zI (3:Int))]:LV))))),(Sl.v 1 (Sl.mk 2 0 (Aq (2*1) (Am 0 ([(zI (0:Int)),(zI (6:Int))]:LV))))),(Sl.v 1 (Sl.mk 2 0 (Aq (2*1) (Am 0 ([(zI (0:Int)),(zI (7:Int))]:LV))))),(Sl.v 1 (Sl.mk 4 0 (Aq (4*1) (Am 0 ([(zI (0:Int)),(zI (2:Int)),(zI (6:Int)),(zI (7:Int))]:LV))))),(Sl.v 1 (Sl.mk 8 0 (Aq (8*1) (Am 0 ([(zI (0:Int)),(zI (1:Int)),(zI (2:Int)),(zI (3:Int)),(zI (4:Int)),(zI (5:Int)),(zI (6:Int)),(zI (7:Int))]:LV)))))]:LV)),hm,(.k [1] [false] [.tmp 3 false,.tmp 6 false,.tmp 8 false,.tmp 9 false] [3,6,8,9,10] ⟨Bq h1,trivial⟩)⟩
  ·refine BO (Bd (Aj .i64 (Int.add (1:Int) (Int.tmod (Aj .i64 x2) x0))) (Aj .i64 (Int.add (1:Int) (Int.tmod (Aj .i64 x3) x0)))) h8 ?_
   refine .skip ?_
   exact⟨(10,21,(5:Int),q0,(0:Int),(0:Int),(0:Int),(Aj .i64 (Int.add (1:Int) (Int.tmod (Aj .i64 x2) x0))),(Aj .i64 (Int.add (1:Int) (Int.tmod (Aj .i64 x3) x0))),(Aj .i64 (Int.add (1:Int) (Int.tmod (Aj .i64 x4) x1))),([(Sl.v 1 (Sl.mk 1 0 (Aq (1*1) (Am 0 ([(zI (0:Int))]:LV))))),(Sl.v 1 (Sl.mk 2 0 (Aq (2*1) (Am 0 ([(zI (0:Int)),(zI (2:Int))]:LV))))),(Sl.v 1 (Sl.mk 2 0 (Aq (2*1) (Am 0 ([(zI (0:Int)),(zI (4:Int))]:LV))))),(Sl.v 1 (Sl.mk 2 0 (Aq (2*1) (Am 0 ([(zI (0:Int)),(zI (5:Int))]:LV))))),(Sl.v 1 (Sl.mk 4 0 (Aq (4*1) (Am 0 ([(zI (0:Int)),(zI (2:Int)),(zI (4:Int)),(zI (5:Int))]:LV))))),(Sl.v 1 (Sl.mk 4 0 (Aq (4*1) (Am 0 ([(zI (0:Int)),(zI (1:Int)),(zI (2:Int)),(zI (3:Int))]:LV))))),(Sl.v 1 (Sl.mk 2 0 (Aq (2*1) (Am 0 ([(zI (0:Int)),(zI (6:Int))]:LV))))),(Sl.v 1 (Sl.mk 2 0 (Aq (2*1) (Am 0 ([(zI (0:Int)),(zI (7:Int))]:LV))))),(Sl.v 1 (Sl.mk 4 0 (Aq (4*1) (Am 0 ([(zI (0:Int)),(zI (2:Int)),(zI (6:Int)),(zI (7:Int))]:LV))))),(Sl.v 1 (Sl.mk 8 0 (Aq (8*1) (Am 0 ([(zI (0:Int)),(zI (1:Int)),(zI (2:Int)),(zI (3:Int)),(zI (4:Int)),(zI (5:Int)),(zI (6:Int)),(zI (7:Int))]:LV)))))]:LV)),hm,(.k [1] [false] [.tmp 3 false,.tmp 6 false,.tmp 8 false,.tmp 9 false] [3,6,8,9,10] ⟨Bq h1,trivial⟩)⟩
def Sb (pu:Af) (n n0 c0:Nat) (q0:LV):OV:=
 (bb (Au Ah q0) (bb (an (Nat.ble (0+n0*1) (len q0)) (Au Ah (Aq (n0*1) (Am 0 q0)))) (some (Sl.v 1 (Sl.mk n0 0 (Aq (n0*1) (Am 0 q0))))) none) none)
def UQ (pu:Af) (n:Nat) (ih0:Int→Nat→Nat→Int→Int→LV→OV) (z0:Int) (n0 c0:Nat) (z1 z2:Int) (q0:LV):OV:=
 (bb (Au Ah q0) (ih0 z0 n0 c0 z1 (Aj .i64 (Int.add z2 (1:Int))) q0) none)
def Ya (pu:Af) (n:Nat) (ih0:Int→Nat→Nat→Int→Int→LV→OV) (z0:Int) (n0 c0:Nat) (z1 z2:Int) (q0:LV):OV:=
 (bb (Au Ah q0) (bb (AY z2 z1) (bb (nt (Bd z0 (0:Int))) (bb (nt (Bd z0 (0:Int))) (bb (AY (Int.tmod z2 z0) (Aj .i64 (Int.sub (Aj .i64 (Int.sub z0 (1:Int))) (Int.tmod z2 z0)))) (oo (EA (Aj .i64 (Int.sub (Aj .i64 (Int.sub (Aj .i64 (Int.add (Aj .i64 (Int.mul (Aj .i64 (Int.tdiv z2 z0)) z0)) z0)) (1:Int))) (Int.tmod z2 z0)))) none fun k1=>(oo (EA (Aj .i64 (Int.sub (Aj .i64 (Int.sub (Aj .i64 (Int.add (Aj .i64 (Int.mul (Aj .i64 (Int.tdiv z2 z0)) z0)) z0)) (1:Int))) (Int.tmod z2 z0)))) none fun k2=>(bb (an (Nat.blt k2 n0) true) (oo (AL q0 (0+k2*1)) none fun v0=>(oo (Bi .i64 v0) none fun x0=>(oo (EA z2) none fun k3=>(bb (an (Nat.blt k3 n0) true) (oo (AL q0 (0+k3*1)) none fun v1=>(oo (Bi .i64 v1) none fun x1=>(bb (an (Nat.blt k3 n0) true) (bb (an (Nat.ble ((0+k3*1)+1) (len q0)) true) (bb (an (Nat.blt k1 n0) true) (bb (an (Nat.ble ((0+k1*1)+1) (len (BM ([.int .i64 x0]:LV) (0+k3*1) q0))) true) (bb (Au Ah (BM ([.int .i64 x1]:LV) (0+k1*1) (BM ([.int .i64 x0]:LV) (0+k3*1) q0))) (UQ pu n ih0 z0 n0 c0 z1 (Int.ofNat k3) (BM ([.int .i64 x1]:LV) (0+k1*1) (BM ([.int .i64 x0]:LV) (0+k3*1) q0))) none) none) none) none) none))) none)))) none))) (UQ pu n ih0 z0 n0 c0 z1 z2 q0)) none) none) (Sb pu n n0 c0 q0)) none)
def UR (pu:Af) (n w:Nat):Int→Nat→Nat→Int→Int→LV→OV:=
 Nat.rec (motive:=fun _=>Int→Nat→Nat→Int→Int→LV→OV) (fun _ _ _ _ _ _=>none) (fun _ ih0=>Ya pu n ih0) w
def UT (pu:Af) (n:Nat) (z0:Int) (b0:Bool) (n0 c0:Nat) (q0:LV):OV:=
 (bb (Au Ah q0) (bb b0 (UR pu n n z0 n0 c0 (Int.ofNat n0) (0:Int) q0) (Sb pu n n0 c0 q0)) none)
def Yb (pu:Af) (n:Nat) (ih0:Int→Int→Bool→Nat→Nat→Int→Int→LV→OV) (z0 z1:Int) (b0:Bool) (n0 c0:Nat) (z2 z3:Int) (q0:LV):OV:=
 (bb (Au Ah q0) (ih0 z0 z1 b0 n0 c0 z2 (Aj .i64 (Int.add z3 (1:Int))) q0) none)
def Yc (pu:Af) (n:Nat) (ih0:Int→Int→Bool→Nat→Nat→Int→Int→LV→OV) (z0 z1:Int) (b0:Bool) (n0 c0:Nat) (z2 z3:Int) (q0:LV):OV:=
 (bb (Au Ah q0) (Yb pu n ih0 z1 z0 b0 n0 c0 z2 z3 q0) none)
def Yd (pu:Af) (n:Nat) (ih0:Int→Int→Bool→Nat→Nat→Int→Int→LV→OV) (ih1:Int→Int→Bool→Nat→Nat→Nat→Nat→Int→Int→Int→Int→LV→LV→OV) (z0 z1:Int) (b0:Bool) (n0 c0 n1 c1:Nat) (z2 z3 z4 z5:Int) (q0:LV) (q1:LV):OV:=
 (bb (Au Ah q0) (bb (Au Ah q1) (ih1 z0 z1 b0 n0 c0 n1 c1 z2 z3 z4 (Aj .i64 (Int.add z5 (1:Int))) q0 q1) none) none)
def Ui (pu:Af) (n:Nat) (ih0:Int→Int→Bool→Nat→Nat→Int→Int→LV→OV) (ih1:Int→Int→Bool→Nat→Nat→Nat→Nat→Int→Int→Int→Int→LV→LV→OV) (ih2:Int→Int→Bool→Nat→Nat→Nat→Nat→Int→Int→Int→Int→Int→Int→LV→LV→OV) (z0 z1:Int) (b0:Bool) (n0 c0 n1 c1:Nat) (z2 z3 z4 z5 z6 z7:Int) (q0:LV) (q1:LV):OV:=
 (bb (Au Ah q0) (bb (Au Ah q1) (bb (nt (AY z3 (0:Int))) (oo (EA (Aj .i64 (Int.add (Aj .i64 (Int.mul z3 z1)) z2))) none fun k1=>(bb (an (Nat.blt k1 n0) true) (oo (AL q0 (0+k1*1)) none fun v0=>(oo (Bi .i64 v0) none fun x0=>(bb (GV 1 8 n1 c1 1 q1) (bb (Au Ah (Br (Am 0 q1) [.int .i64 x0])) (ih2 z0 z1 b0 n0 c0 (n1+1) (2*(n1+1)+bb false 1 0) z2 (Aj .i64 (Int.sub z3 (1:Int))) z4 z5 z6 z7 q0 (Br (Am 0 q1) [.int .i64 x0])) none) none))) none)) (Yd pu n ih0 ih1 z0 z1 b0 n0 c0 n1 c1 z4 z5 z6 z7 q0 q1)) none) none)
def Uj (pu:Af) (n:Nat) (ih0:Int→Int→Bool→Nat→Nat→Int→Int→LV→OV) (ih1:Int→Int→Bool→Nat→Nat→Nat→Nat→Int→Int→Int→Int→LV→LV→OV) (w:Nat):Int→Int→Bool→Nat→Nat→Nat→Nat→Int→Int→Int→Int→Int→Int→LV→LV→OV:=
 Nat.rec (motive:=fun _=>Int→Int→Bool→Nat→Nat→Nat→Nat→Int→Int→Int→Int→Int→Int→LV→LV→OV) (fun _ _ _ _ _ _ _ _ _ _ _ _ _ _ _=>none) (fun _ ih2=>Ui pu n ih0 ih1 ih2) w
def Ye (pu:Af) (n:Nat) (ih0:Int→Int→Bool→Nat→Nat→Int→Int→LV→OV) (ih1:Int→Int→Bool→Nat→Nat→Nat→Nat→Int→Int→Int→Int→LV→LV→OV) (z0 z1:Int) (b0:Bool) (n0 c0 n1 c1:Nat) (z2 z3 z4 z5:Int) (q0:LV) (q1:LV):OV:=
 (bb (Au Ah q0) (bb (Au Ah q1) (bb (AY z5 z4) (Uj pu n ih0 ih1 n z0 z1 b0 n0 c0 n1 c1 z5 (Aj .i64 (Int.sub z0 (1:Int))) z2 z3 z4 z5 q0 q1) (Yc pu n ih0 z0 z1 b0 n1 c1 z2 z3 q1)) none) none)
def Oi (pu:Af) (n:Nat) (ih0:Int→Int→Bool→Nat→Nat→Int→Int→LV→OV) (w:Nat):Int→Int→Bool→Nat→Nat→Nat→Nat→Int→Int→Int→Int→LV→LV→OV:=
 Nat.rec (motive:=fun _=>Int→Int→Bool→Nat→Nat→Nat→Nat→Int→Int→Int→Int→LV→LV→OV) (fun _ _ _ _ _ _ _ _ _ _ _ _ _=>none) (fun _ ih1=>Ye pu n ih0 ih1) w
def Yf (pu:Af) (n:Nat) (ih0:Int→Int→Bool→Nat→Nat→Int→Int→LV→OV) (z0 z1:Int) (b0:Bool) (n0 c0:Nat) (z2 z3:Int) (q0:LV):OV:=
 (bb (Au Ah q0) (bb (AY z3 z2) (Oi pu n ih0 n z0 z1 b0 n0 c0 0 0 z2 z3 z1 (0:Int) q0 ([]:LV)) (UT pu n z1 b0 n0 c0 q0)) none)
def Gn (pu:Af) (n w:Nat):Int→Int→Bool→Nat→Nat→Int→Int→LV→OV:=
 Nat.rec (motive:=fun _=>Int→Int→Bool→Nat→Nat→Int→Int→LV→OV) (fun _ _ _ _ _ _ _ _=>none) (fun _ ih0=>Yf pu n ih0) w
def LP (pu:Af) (n:Nat) (s0:Sl) (z0 z1 z2:Int) (b0:Bool):OV:=
 (bb (Nat.beq (Sl.n s0) 0) none (bb (EQ (0+(Sl.n s0)) 8) (bb (Au Ah (Aq ((Sl.n s0)*1) (Sl.cs s0))) (Gn pu n n z0 z1 b0 (0+(Sl.n s0)) (2*(0+(Sl.n s0))+bb false 1 0) z2 (0:Int) (Aq ((Sl.n s0)*1) (Sl.cs s0))) none) none))
def Acc (pu:Af) (n:Nat) (s0:Sl) (x0 x1 x2:Int):OV:=
 (bb (Bd x2 (4:Int)) (LP pu n s0 x0 x1 (0:Int) true) (bb (Bd x2 (5:Int)) (LP pu n s0 x0 x1 (2:Int) true) (bb (Bd x2 (6:Int)) (LP pu n s0 x0 x1 (1:Int) true) (bb (Bd x2 (7:Int)) (LP pu n s0 x0 x1 (3:Int) true) (LP pu n s0 x0 x1 x2 false)))))
def m10 (pu:Af) (n:Nat) (args:LV):OV:=
 (ll args none fun a0 args=>(ll args none fun a1 args=>(ll args none fun a2 args=>(ll args none fun a3 args=>(ll args (oo (Bj 1 a0) none fun s0=>(oo (Bi .i64 a1) none fun x0=>(oo (Bi .i64 a2) none fun x1=>(oo (Bi .i64 a3) none fun x2=>(Acc pu n s0 x0 x1 x2))))) fun _ _=>none)))))
theorem Acd (pu:Af) (n n0 c0:Nat) (q0:LV) {v:Value} (hm:Sb pu n n0 c0 q0=some v):BN tt (Bb tabs isP pu (inl pu)) 1 Xg (fr 103 [(11,sc 1 0 1 n0 c0)]) (hT 2 [oC q0]) (Fin tt 1 [.tmp 8] v):=by
 unfold Sb at hm
 refine .then (.rK ?_)
 replace hm:=Ae hm;obtain⟨h0,hm⟩:=hm
 refine .ghs (fr 103 [(8,sc 1 0 1 n0 c0)]) (hT 2 [oC q0]) (.k [1] [false] [.tmp 8 false] [8] ⟨Bq h0,trivial⟩) ?_
 replace hm:=Ae hm;obtain⟨h1,hm⟩:=hm
 refine .ghs (Fr.puts (fr 103 [(8,sc 1 0 1 n0 c0)]) [(8,(Sl.v 1 (Sl.mk n0 0 (Aq (n0*1) (Am 0 q0)))))]) (hT 2 [.dead]) (.freezeC 1 8 1 (an (Nat.ble (0+n0*1) (len q0)) (Au Ah (Aq (n0*1) (Am 0 q0)))) (F1:=(Fr.puts (fr 103 [(8,sc 1 0 1 n0 c0)]) [(8,(Sl.v 1 (Sl.mk n0 0 (Aq (n0*1) (Am 0 q0)))))])) (H1:=(hT 2 [.dead])) (by kernel_rfl) (by kernel_rfl) h1 (E9.id _ _)) ?_
 refine .ret ?_
 exact A7 (Sl.v 1 (Sl.mk n0 0 (Aq (n0*1) (Am 0 q0)))) hm
theorem Ace (pu:Af) (n:Nat) (z0:Int) (b0:Bool) (n0 c0:Nat) (q0:LV) {v:Value} (hm:UT pu n z0 b0 n0 c0 q0=some v):BN tt (Bb tabs isP pu (inl pu)) 1 Xh (fr 103 [(2,zI z0),(10,zB b0),(11,sc 1 0 1 n0 c0)]) (hT 2 [oC q0]) (Fin tt 1 [.tmp 8] v):=by
 unfold UT at hm
 refine .join (v:=v) (fun y:Nat×Nat×LV=>((fr 103 [(11,(sc 1 0 1 y.1 y.2.1))]),(hT 2 [(oC y.2.2)]))) (fun y=>Sb pu n y.1 y.2.1 y.2.2) ?_ ?_
 ·rintro⟨n1,c1,q1⟩ hm
  exact Acd pu n n1 c1 q1 hm
 ·refine .then (.rK ?_)
  replace hm:=Ae hm;obtain⟨h0,hm⟩:=hm
  refine .ghs (fr 103 [(2,zI z0),(11,sc 1 0 1 n0 c0),(61,zB b0)]) (hT 2 [oC q0]) (.k [1] [false] [.tmp 11 false] [2,11,61] ⟨Bq h0,trivial⟩) ?_
  replace hm:=Ag hm;rcases hm with⟨h1,hm⟩ | ⟨h1,hm⟩
  ·refine .ifT b0 (by kernel_rfl) h1 ?_
   refine .then (.rK (.ghs (fr 103 [(2,zI z0),(11,sc 1 0 1 n0 c0),(63,(zI (Int.ofNat n0))),(64,(zI (0:Int)))]) (hT 2 [oC q0]) (.k [1] [false] [.tmp 11 false] [2,11,63,64] ⟨Bq h0,trivial⟩) ?_))
   refine .block (.loopM (v:=v) (fun y:Int×Nat×Nat×Int×Int×LV=>((fr 103 [(2,(zI y.1)),(11,(sc 1 0 1 y.2.1 y.2.2.1)),(63,(zI y.2.2.2.1)),(64,(zI y.2.2.2.2.1))]),(hT 2 [(oC y.2.2.2.2.2)]))) (fun w y=>UR pu n w y.1 y.2.1 y.2.2.1 y.2.2.2.1 y.2.2.2.2.1 y.2.2.2.2.2) n ⟨(z0,n0,c0,(Int.ofNat n0),(0:Int),q0),hm,(.k [1] [false] [.tmp 11 false] [2,11,63,64] ⟨Bq h0,trivial⟩)⟩ (fun _=>rfl) ?_)
   rintro w0 ⟨z1,n2,c2,z2,z3,q2⟩ hm
   replace hm:Ya pu n (UR pu n w0) z1 n2 c2 z2 z3 q2=some v:=hm
   unfold Ya at hm
   refine .then (.rK ?_)
   replace hm:=Ae hm;obtain⟨h2,hm⟩:=hm
   refine .ghs (fr 103 [(2,zI z1),(11,sc 1 0 1 n2 c2),(63,zI z2),(64,zI z3),(65,(zB (AY z3 z2)))]) (hT 2 [oC q2]) (.k [1] [false] [.tmp 11 false] [2,11,63,64,65] ⟨Bq h2,trivial⟩) ?_
   refine .then ?_
   replace hm:=Ag hm;rcases hm with⟨h3,hm⟩ | ⟨h3,hm⟩
   ·refine BI (AY z3 z2) h3 ?_
    refine .skip (.ghs (fr 103 [(2,zI z1),(11,sc 1 0 1 n2 c2),(63,zI z2),(64,zI z3)]) (hT 2 [oC q2]) (.k [1] [false] [.tmp 11 false] [2,11,63,64] ⟨Bq h2,trivial⟩) ?_)
    refine .join (v:=v) (fun y:Int×Nat×Nat×Int×Int×LV=>((fr 103 [(2,(zI y.1)),(11,(sc 1 0 1 y.2.1 y.2.2.1)),(63,(zI y.2.2.2.1)),(64,(zI y.2.2.2.2.1))]),(hT 2 [(oC y.2.2.2.2.2)]))) (fun y=>UQ pu n (UR pu n w0) y.1 y.2.1 y.2.2.1 y.2.2.2.1 y.2.2.2.2.1 y.2.2.2.2.2) ?_ ?_
    ·rintro⟨z4,n3,c3,z5,z6,q3⟩ hm
     unfold UQ at hm
     refine .rK ?_
     replace hm:=Ae hm;obtain⟨h4,hm⟩:=hm
     exact⟨(z4,n3,c3,z5,(Aj .i64 (Int.add z6 (1:Int))),q3),hm,(.k [1] [false] [.tmp 11 false] [2,11,63,64] ⟨Bq h4,trivial⟩)⟩
    ·refine .block (.then (.rK (.ghs (fr 103 [(2,zI z1),(11,sc 1 0 1 n2 c2),(15,zI z3),(63,zI z2),(64,zI z3)]) (hT 2 [oC q2]) (.k [1] [false] [.tmp 11 false] [2,11,15,63,64] ⟨Bq h2,trivial⟩) ?_)))
     refine .then ?_
     replace hm:=Ae hm;obtain⟨h5,hm⟩:=hm
     replace hm:=Ae hm;obtain⟨h6,hm⟩:=hm
     refine .reg (eC 2 (keep (hT 2 [oC q2]) (bb (Bd z1 (0:Int)) none (some (zI (Aj .i64 (Int.tdiv z3 z1)))))) (XH h5) (eC 2 (keep (hT 2 [oC q2]) (bb (Bd z1 (0:Int)) none (some (zI (Int.tmod z3 z1))))) (XH h6) (eE))) ?_
     refine .ghs (fr 103 [(2,zI z1),(11,sc 1 0 1 n2 c2),(15,zI z3),(16,(zI (Aj .i64 (Int.tdiv z3 z1)))),(17,(zI (Int.tmod z3 z1))),(63,zI z2),(64,zI z3)]) (hT 2 [oC q2]) (.k [1] [false] [.tmp 11 false] [2,11,15,16,17,63,64] ⟨Bq h2,trivial⟩) ?_
     refine .then (.rK (.ghs (fr 103 [(2,zI z1),(11,sc 1 0 1 n2 c2),(15,zI z3),(16,(zI (Aj .i64 (Int.tdiv z3 z1)))),(17,(zI (Int.tmod z3 z1))),(63,zI z2),(64,zI z3),(78,(zB (AY (Int.tmod z3 z1) (Aj .i64 (Int.sub (Aj .i64 (Int.sub z1 (1:Int))) (Int.tmod z3 z1))))))]) (hT 2 [oC q2]) (.k [1] [false] [.tmp 11 false] [2,11,15,16,17,63,64,78] ⟨Bq h2,trivial⟩) ?_))
     replace hm:=Ag hm;rcases hm with⟨h7,hm⟩ | ⟨h7,hm⟩
     ·refine BI (AY (Int.tmod z3 z1) (Aj .i64 (Int.sub (Aj .i64 (Int.sub z1 (1:Int))) (Int.tmod z3 z1)))) h7 ?_
      refine .then (.rK (.ghs (fr 103 [(2,zI z1),(11,sc 1 0 1 n2 c2),(15,zI z3),(18,(zI (Aj .i64 (Int.sub (Aj .i64 (Int.sub (Aj .i64 (Int.add (Aj .i64 (Int.mul (Aj .i64 (Int.tdiv z3 z1)) z1)) z1)) (1:Int))) (Int.tmod z3 z1))))),(63,zI z2),(64,zI z3)]) (hT 2 [oC q2]) (.k [1] [false] [.tmp 11 false] [2,11,15,18,63,64] ⟨Bq h2,trivial⟩) ?_))
      replace hm:=Ab hm;obtain⟨k1,h8,hm⟩:=hm
      replace hm:=Ab hm;obtain⟨k2,h9,hm⟩:=hm
      replace hm:=Ae hm;obtain⟨h10,hm⟩:=hm
      replace hm:=Gp hm;obtain⟨x0,h11,hm⟩:=hm
      replace hm:=Ab hm;obtain⟨k3,h12,hm⟩:=hm
      obtain rfl:=AR h12
      replace hm:=Ae hm;obtain⟨h13,hm⟩:=hm
      replace hm:=Gp hm;obtain⟨x1,h14,hm⟩:=hm
      replace hm:=Ae hm;obtain⟨h15,hm⟩:=hm
      replace hm:=Ae hm;obtain⟨h16,hm⟩:=hm
      replace hm:=Ae hm;obtain⟨h17,hm⟩:=hm
      replace hm:=Ae hm;obtain⟨h18,hm⟩:=hm
      refine .reg (eN 7 (Fr.puts (fr 103 [(2,zI z1),(11,sc 1 0 1 n2 c2),(15,(zI (Int.ofNat k3))),(18,(zI (Aj .i64 (Int.sub (Aj .i64 (Int.sub (Aj .i64 (Int.add (Aj .i64 (Int.mul (Aj .i64 (Int.tdiv (Int.ofNat k3) z1)) z1)) z1)) (1:Int))) (Int.tmod (Int.ofNat k3) z1))))),(63,zI z2),(64,(zI (Int.ofNat k3)))]) [(87,sc 1 0 1 n2 c2),(88,(zI (Int.ofNat k3))),(89,sc 1 0 1 n2 c2),(90,(zI (Int.ofNat k1))),(91,sc 1 0 1 n2 c2),(92,(zI (Int.ofNat k2))),(93,(.pointer (some ⟨1,(0+k2*1),none⟩)))]) (hT 2 [oC q2]) (eC 3 (some ((zI (Aj .i64 (Int.sub (Aj .i64 (Int.sub (Aj .i64 (Int.add (Aj .i64 (Int.mul (Aj .i64 (Int.tdiv (Int.ofNat k3) z1)) z1)) z1)) (1:Int))) (Int.tmod (Int.ofNat k3) z1)))),(hT 2 [oC q2]))) (show _=some ((zI (Int.ofNat k1)),_) from (by rw[AR h8])) (eC 1 (some ((zI (Aj .i64 (Int.sub (Aj .i64 (Int.sub (Aj .i64 (Int.add (Aj .i64 (Int.mul (Aj .i64 (Int.tdiv (Int.ofNat k3) z1)) z1)) z1)) (1:Int))) (Int.tmod (Int.ofNat k3) z1)))),(hT 2 [oC q2]))) (show _=some ((zI (Int.ofNat k2)),_) from (by rw[AR h9])) (eD (keep (hT 2 [oC q2]) (bb (an (Nat.blt k2 n2) true) (some (.pointer (some ⟨1,(0+k2*1),none⟩))) none)) (AX h10) (by kernel_rfl)))) (eN 5 (Fr.puts (fr 103 [(2,zI z1),(11,sc 1 0 1 n2 c2),(15,(zI (Int.ofNat k3))),(18,(zI (Aj .i64 (Int.sub (Aj .i64 (Int.sub (Aj .i64 (Int.add (Aj .i64 (Int.mul (Aj .i64 (Int.tdiv (Int.ofNat k3) z1)) z1)) z1)) (1:Int))) (Int.tmod (Int.ofNat k3) z1))))),(63,zI z2),(64,(zI (Int.ofNat k3)))]) [(87,sc 1 0 1 n2 c2),(88,(zI (Int.ofNat k3))),(89,sc 1 0 1 n2 c2),(90,(zI (Int.ofNat k1))),(91,sc 1 0 1 n2 c2),(92,(zI (Int.ofNat k2))),(93,(.pointer (some ⟨1,(0+k2*1),none⟩))),(94,zI x0),(95,sc 1 0 1 n2 c2),(96,(zI (Int.ofNat k3))),(97,(.pointer (some ⟨1,(0+k3*1),none⟩))),(98,zI x1)]) (hT 2 [oC q2]) (eD (keep (hT 2 [oC q2]) (AL q2 (0+k2*1))) (AZ h11) (eC 2 (keep (hT 2 [oC q2]) (bb (an (Nat.blt k3 n2) true) (some (.pointer (some ⟨1,(0+k3*1),none⟩))) none)) (AX h13) (eD (keep (hT 2 [oC q2]) (AL q2 (0+k3*1))) (AZ h14) (by kernel_rfl)))) (eD (keep (hT 2 [oC q2]) (bb (an (Nat.blt k3 n2) true) (some (.pointer (some ⟨1,(0+k3*1),none⟩))) none)) (AX h15) (eD (done (bb (an (Nat.ble ((0+k3*1)+1) (len q2)) true) (some (hT 2 [(oC (BM ([zI x0]:LV) (0+k3*1) q2))])) none) undef) (Js h16) (eD (keep (hT 2 [(oC (BM ([zI x0]:LV) (0+k3*1) q2))]) (bb (an (Nat.blt k1 n2) true) (some (.pointer (some ⟨1,(0+k1*1),none⟩))) none)) (AX h17) (eD (done (bb (an (Nat.ble ((0+k1*1)+1) (len (BM ([zI x0]:LV) (0+k3*1) q2))) true) (some (hT 2 [(oC (BM ([zI x1]:LV) (0+k1*1) (BM ([zI x0]:LV) (0+k3*1) q2)))])) none) undef) (Js h18) (eE))))))) ?_
      replace hm:=Ae hm;obtain⟨h19,hm⟩:=hm
      exact⟨(z1,n2,c2,z2,(Int.ofNat k3),(BM ([zI x1]:LV) (0+k1*1) (BM ([zI x0]:LV) (0+k3*1) q2))),hm,(.k [1] [false] [.tmp 11 false] [2,11,63,64] ⟨Bq h19,trivial⟩)⟩
     ·refine BO (AY (Int.tmod z3 z1) (Aj .i64 (Int.sub (Aj .i64 (Int.sub z1 (1:Int))) (Int.tmod z3 z1)))) h7 ?_
      refine .skip ?_
      exact⟨(z1,n2,c2,z2,z3,q2),hm,(.k [1] [false] [.tmp 11 false] [2,11,63,64] ⟨Bq h2,trivial⟩)⟩
   ·refine BO (AY z3 z2) h3 ?_
    refine .exit ?_
    exact⟨(n2,c2,q2),hm,(.k [1] [false] [.tmp 11 false] [11] ⟨Bq h2,trivial⟩)⟩
  ·refine .ifF b0 (by kernel_rfl) h1 ?_
   refine .skip ?_
   exact⟨(n0,c0,q0),hm,(.k [1] [false] [.tmp 11 false] [11] ⟨Bq h0,trivial⟩)⟩
theorem Acf (pu:Af) (n:Nat) (s0:Sl) (z0 z1 z2:Int) (b0:Bool) {v:Value} (hm:LP pu n s0 z0 z1 z2 b0=some v):BN tt (Bb tabs isP pu (inl pu)) 1 XJ (fr 103 [(0,Sl.v 1 s0),(1,zI z0),(2,zI z1),(9,zI z2),(10,zB b0)]) Ay (Fin tt 1 [.tmp 8] v):=by
 unfold LP at hm
 refine .then ?_
 replace hm:=Ag hm;rcases hm with⟨h0,hm⟩ | ⟨h0,hm⟩
 ·cases hm
 ·replace hm:=Ae hm;obtain⟨h1,hm⟩:=hm
  refine .reg (eC 2 (Ql (hT 2 [(oC [])]) 1 8 (sc 1 0 1 0 1) s0) (Zf h0 h1 (by kernel_rfl)) (eE)) ?_
  replace hm:=Ae hm;obtain⟨h2,hm⟩:=hm
  refine .ghs (fr 103 [(1,zI z0),(2,zI z1),(9,zI z2),(10,zB b0),(11,(sc 1 0 1 (0+(Sl.n s0)) (d2 (0+(Sl.n s0)))))]) (hT 2 [(oC (Aq ((Sl.n s0)*1) (Sl.cs s0)))]) (.k [2] [false] [.tmp 11 false] [1,2,9,10,11] ⟨Bq h2,trivial⟩) ?_
  refine .join (v:=v) (fun y:Int×Bool×Nat×Nat×LV=>((fr 103 [(2,(zI y.1)),(10,(zB y.2.1)),(11,(sc 1 0 1 y.2.2.1 y.2.2.2.1))]),(hT 2 [(oC y.2.2.2.2)]))) (fun y=>UT pu n y.1 y.2.1 y.2.2.1 y.2.2.2.1 y.2.2.2.2) ?_ ?_
  ·rintro⟨z3,b1,n0,c0,q0⟩ hm
   exact Ace pu n z3 b1 n0 c0 q0 hm
  ·refine .then (.rK (.ghs (fr 103 [(1,zI z0),(2,zI z1),(10,zB b0),(11,(sc 1 0 1 (0+(Sl.n s0)) (d2 (0+(Sl.n s0))))),(32,zI z2),(33,(zI (0:Int)))]) (hT 2 [(oC (Aq ((Sl.n s0)*1) (Sl.cs s0)))]) (.k [1] [false] [.tmp 11 false] [1,2,10,11,32,33] ⟨Bq h2,trivial⟩) ?_))
   refine .block (.loopM (v:=v) (fun y:Int×Int×Bool×Nat×Nat×Int×Int×LV=>((fr 103 [(1,(zI y.1)),(2,(zI y.2.1)),(10,(zB y.2.2.1)),(11,(sc 1 0 1 y.2.2.2.1 y.2.2.2.2.1)),(32,(zI y.2.2.2.2.2.1)),(33,(zI y.2.2.2.2.2.2.1))]),(hT 2 [(oC y.2.2.2.2.2.2.2)]))) (fun w y=>Gn pu n w y.1 y.2.1 y.2.2.1 y.2.2.2.1 y.2.2.2.2.1 y.2.2.2.2.2.1 y.2.2.2.2.2.2.1 y.2.2.2.2.2.2.2) n ⟨(z0,z1,b0,(0+(Sl.n s0)),(d2 (0+(Sl.n s0))),z2,(0:Int),(Aq ((Sl.n s0)*1) (Sl.cs s0))),hm,(.k [1] [false] [.tmp 11 false] [1,2,10,11,32,33] ⟨Bq h2,trivial⟩)⟩ (fun _=>rfl) ?_)
   rintro w0 ⟨z4,z5,b2,n1,c1,z6,z7,q1⟩ hm
   replace hm:Yf pu n (Gn pu n w0) z4 z5 b2 n1 c1 z6 z7 q1=some v:=hm
   unfold Yf at hm
   refine .then (.rK ?_)
   replace hm:=Ae hm;obtain⟨h3,hm⟩:=hm
   refine .ghs (fr 103 [(1,zI z4),(2,zI z5),(10,zB b2),(11,sc 1 0 1 n1 c1),(32,zI z6),(33,zI z7),(34,(zB (AY z7 z6)))]) (hT 2 [oC q1]) (.k [1] [false] [.tmp 11 false] [1,2,10,11,32,33,34] ⟨Bq h3,trivial⟩) ?_
   refine .then ?_
   replace hm:=Ag hm;rcases hm with⟨h4,hm⟩ | ⟨h4,hm⟩
   ·refine BI (AY z7 z6) h4 ?_
    refine .skip (.ghs (fr 103 [(1,zI z4),(2,zI z5),(10,zB b2),(11,sc 1 0 1 n1 c1),(32,zI z6),(33,zI z7)]) (hT 2 [oC q1]) (.k [1] [false] [.tmp 11 false] [1,2,10,11,32,33] ⟨Bq h3,trivial⟩) ?_)
    refine .join (v:=v) (fun y:Int×Int×Bool×Nat×Nat×Int×Int×LV=>((fr 103 [(1,(zI y.1)),(2,(zI y.2.1)),(10,(zB y.2.2.1)),(11,(sc 1 0 1 y.2.2.2.1 y.2.2.2.2.1)),(32,(zI y.2.2.2.2.2.1)),(33,(zI y.2.2.2.2.2.2.1))]),(hT 2 [(oC y.2.2.2.2.2.2.2)]))) (fun y=>Yb pu n (Gn pu n w0) y.1 y.2.1 y.2.2.1 y.2.2.2.1 y.2.2.2.2.1 y.2.2.2.2.2.1 y.2.2.2.2.2.2.1 y.2.2.2.2.2.2.2) ?_ ?_
    ·rintro⟨z8,z9,b3,n2,c2,z10,z11,q2⟩ hm
     unfold Yb at hm
     refine .rK ?_
     replace hm:=Ae hm;obtain⟨h5,hm⟩:=hm
     exact⟨(z8,z9,b3,n2,c2,z10,(Aj .i64 (Int.add z11 (1:Int))),q2),hm,(.k [1] [false] [.tmp 11 false] [1,2,10,11,32,33] ⟨Bq h5,trivial⟩)⟩
    ·refine .block (.then (.rK (.ghs (fr 103 [(1,zI z4),(2,zI z5),(10,zB b2),(11,sc 1 0 1 n1 c1),(12,(.slice none 0 0)),(32,zI z6),(33,zI z7)]) (hT 2 [oC q1]) (.k [1] [false] [.tmp 11 false] [1,2,10,11,12,32,33] ⟨Bq h3,trivial⟩) ?_)))
     refine .join (v:=v) (fun y:Int×Int×Bool×Nat×Nat×Int×Int×LV=>((fr 103 [(1,(zI y.1)),(2,(zI y.2.1)),(10,(zB y.2.2.1)),(12,(sc 1 0 1 y.2.2.2.1 y.2.2.2.2.1)),(32,(zI y.2.2.2.2.2.1)),(33,(zI y.2.2.2.2.2.2.1))]),(hT 2 [(oC y.2.2.2.2.2.2.2)]))) (fun y=>Yc pu n (Gn pu n w0) y.1 y.2.1 y.2.2.1 y.2.2.2.1 y.2.2.2.2.1 y.2.2.2.2.2.1 y.2.2.2.2.2.2.1 y.2.2.2.2.2.2.2) ?_ ?_
     ·rintro⟨z12,z13,b5,n3,c3,z14,z15,q3⟩ hm
      unfold Yc at hm
      refine .then (.rK ?_)
      replace hm:=Ae hm;obtain⟨h6,hm⟩:=hm
      refine .ghs (fr 103 [(1,zI z12),(2,zI z13),(10,zB b5),(11,sc 1 0 1 n3 c3),(32,zI z14),(33,zI z15)]) (hT 2 [oC q3]) (.k [1] [false] [.tmp 11 false] [1,2,10,11,32,33] ⟨Bq h6,trivial⟩) ?_
      refine .rK ?_
      exact⟨(z13,z12,b5,n3,c3,z14,z15,q3),hm,(.k [1] [false] [.tmp 11 false] [1,2,10,11,32,33] ⟨Bq h6,trivial⟩)⟩
     ·refine .then (.rK (.ghs (fr 103 [(1,zI z4),(2,zI z5),(10,zB b2),(11,sc 1 0 1 n1 c1),(12,(.slice none 0 0)),(32,zI z6),(33,zI z7),(35,zI z5),(36,(zI (0:Int)))]) (hT 2 [oC q1]) (.k [1] [false] [.tmp 11 false] [1,2,10,11,12,32,33,35,36] ⟨Bq h3,trivial⟩) ?_))
      refine .block (.loopM (v:=v) (fun y:Int×Int×Bool×Nat×Nat×Nat×Nat×Int×Int×Int×Int×LV×LV=>((fr 103 [(1,(zI y.1)),(2,(zI y.2.1)),(10,(zB y.2.2.1)),(11,(sc 1 0 1 y.2.2.2.1 y.2.2.2.2.1)),(12,(sc 2 0 1 y.2.2.2.2.2.1 y.2.2.2.2.2.2.1)),(32,(zI y.2.2.2.2.2.2.2.1)),(33,(zI y.2.2.2.2.2.2.2.2.1)),(35,(zI y.2.2.2.2.2.2.2.2.2.1)),(36,(zI y.2.2.2.2.2.2.2.2.2.2.1))]),(hT 3 [(oC y.2.2.2.2.2.2.2.2.2.2.2.1),(oC y.2.2.2.2.2.2.2.2.2.2.2.2)]))) (fun w y=>Oi pu n (Gn pu n w0) w y.1 y.2.1 y.2.2.1 y.2.2.2.1 y.2.2.2.2.1 y.2.2.2.2.2.1 y.2.2.2.2.2.2.1 y.2.2.2.2.2.2.2.1 y.2.2.2.2.2.2.2.2.1 y.2.2.2.2.2.2.2.2.2.1 y.2.2.2.2.2.2.2.2.2.2.1 y.2.2.2.2.2.2.2.2.2.2.2.1 y.2.2.2.2.2.2.2.2.2.2.2.2) n ⟨(z4,z5,b2,n1,c1,0,0,z6,z7,z5,(0:Int),q1,([]:LV)),hm,(.thaw 12 1 (by kernel_rfl) (.k [1] [false] [.tmp 11 false,.tmp 12 false] [1,2,10,11,12,32,33,35,36] ⟨Bq h3,trivial⟩))⟩ (fun _=>rfl) ?_)
      rintro w1 ⟨z16,z17,b6,n4,c5,n5,c6,z18,z19,z20,z21,q5,q6⟩ hm
      replace hm:Ye pu n (Gn pu n w0) (Oi pu n (Gn pu n w0) w1) z16 z17 b6 n4 c5 n5 c6 z18 z19 z20 z21 q5 q6=some v:=hm
      unfold Ye at hm
      refine .then (.rK ?_)
      replace hm:=Ae hm;obtain⟨h7,hm⟩:=hm
      replace hm:=Ae hm;obtain⟨h8,hm⟩:=hm
      refine .ghs (fr 103 [(1,zI z16),(2,zI z17),(10,zB b6),(11,sc 1 0 1 n4 c5),(12,sc 2 0 1 n5 c6),(32,zI z18),(33,zI z19),(35,zI z20),(36,zI z21),(37,(zB (AY z21 z20)))]) (hT 3 [oC q5,oC q6]) (.k [1,2] [false] [.tmp 11 false,.tmp 12 false] [1,2,10,11,12,32,33,35,36,37] ⟨Bq h7,Bq h8,trivial⟩) ?_
      refine .then ?_
      replace hm:=Ag hm;rcases hm with⟨h9,hm⟩ | ⟨h9,hm⟩
      ·refine BI (AY z21 z20) h9 ?_
       refine .skip (.ghs (fr 103 [(1,zI z16),(2,zI z17),(10,zB b6),(11,sc 1 0 1 n4 c5),(12,sc 2 0 1 n5 c6),(32,zI z18),(33,zI z19),(35,zI z20),(36,zI z21)]) (hT 3 [oC q5,oC q6]) (.k [1,2] [false] [.tmp 11 false,.tmp 12 false] [1,2,10,11,12,32,33,35,36] ⟨Bq h7,Bq h8,trivial⟩) ?_)
       refine .join (v:=v) (fun y:Int×Int×Bool×Nat×Nat×Nat×Nat×Int×Int×Int×Int×LV×LV=>((fr 103 [(1,(zI y.1)),(2,(zI y.2.1)),(10,(zB y.2.2.1)),(11,(sc 1 0 1 y.2.2.2.1 y.2.2.2.2.1)),(12,(sc 2 0 1 y.2.2.2.2.2.1 y.2.2.2.2.2.2.1)),(32,(zI y.2.2.2.2.2.2.2.1)),(33,(zI y.2.2.2.2.2.2.2.2.1)),(35,(zI y.2.2.2.2.2.2.2.2.2.1)),(36,(zI y.2.2.2.2.2.2.2.2.2.2.1))]),(hT 3 [(oC y.2.2.2.2.2.2.2.2.2.2.2.1),(oC y.2.2.2.2.2.2.2.2.2.2.2.2)]))) (fun y=>Yd pu n (Gn pu n w0) (Oi pu n (Gn pu n w0) w1) y.1 y.2.1 y.2.2.1 y.2.2.2.1 y.2.2.2.2.1 y.2.2.2.2.2.1 y.2.2.2.2.2.2.1 y.2.2.2.2.2.2.2.1 y.2.2.2.2.2.2.2.2.1 y.2.2.2.2.2.2.2.2.2.1 y.2.2.2.2.2.2.2.2.2.2.1 y.2.2.2.2.2.2.2.2.2.2.2.1 y.2.2.2.2.2.2.2.2.2.2.2.2) ?_ ?_
       ·rintro⟨z22,z23,b7,n6,c7,n7,c8,z24,z25,z26,z27,q7,q8⟩ hm
        unfold Yd at hm
        refine .rK ?_
        replace hm:=Ae hm;obtain⟨h10,hm⟩:=hm
        replace hm:=Ae hm;obtain⟨h11,hm⟩:=hm
        exact⟨(z22,z23,b7,n6,c7,n7,c8,z24,z25,z26,(Aj .i64 (Int.add z27 (1:Int))),q7,q8),hm,(.k [1,2] [false] [.tmp 11 false,.tmp 12 false] [1,2,10,11,12,32,33,35,36] ⟨Bq h10,Bq h11,trivial⟩)⟩
       ·refine .block (.then (.rK (.ghs (fr 103 [(1,zI z16),(2,zI z17),(10,zB b6),(11,sc 1 0 1 n4 c5),(12,sc 2 0 1 n5 c6),(13,zI z21),(32,zI z18),(33,zI z19),(35,zI z20),(36,zI z21)]) (hT 3 [oC q5,oC q6]) (.k [1,2] [false] [.tmp 11 false,.tmp 12 false] [1,2,10,11,12,13,32,33,35,36] ⟨Bq h7,Bq h8,trivial⟩) ?_)))
        refine .then (.rK (.ghs (fr 103 [(1,zI z16),(2,zI z17),(10,zB b6),(11,sc 1 0 1 n4 c5),(12,sc 2 0 1 n5 c6),(13,zI z21),(14,(zI (Aj .i64 (Int.sub z16 (1:Int))))),(32,zI z18),(33,zI z19),(35,zI z20),(36,zI z21)]) (hT 3 [oC q5,oC q6]) (.k [1,2] [false] [.tmp 11 false,.tmp 12 false] [1,2,10,11,12,13,14,32,33,35,36] ⟨Bq h7,Bq h8,trivial⟩) ?_))
        refine .block (.loopM (v:=v) (fun y:Int×Int×Bool×Nat×Nat×Nat×Nat×Int×Int×Int×Int×Int×Int×LV×LV=>((fr 103 [(1,(zI y.1)),(2,(zI y.2.1)),(10,(zB y.2.2.1)),(11,(sc 1 0 1 y.2.2.2.1 y.2.2.2.2.1)),(12,(sc 2 0 1 y.2.2.2.2.2.1 y.2.2.2.2.2.2.1)),(13,(zI y.2.2.2.2.2.2.2.1)),(14,(zI y.2.2.2.2.2.2.2.2.1)),(32,(zI y.2.2.2.2.2.2.2.2.2.1)),(33,(zI y.2.2.2.2.2.2.2.2.2.2.1)),(35,(zI y.2.2.2.2.2.2.2.2.2.2.2.1)),(36,(zI y.2.2.2.2.2.2.2.2.2.2.2.2.1))]),(hT 3 [(oC y.2.2.2.2.2.2.2.2.2.2.2.2.2.1),(oC y.2.2.2.2.2.2.2.2.2.2.2.2.2.2)]))) (fun w y=>Uj pu n (Gn pu n w0) (Oi pu n (Gn pu n w0) w1) w y.1 y.2.1 y.2.2.1 y.2.2.2.1 y.2.2.2.2.1 y.2.2.2.2.2.1 y.2.2.2.2.2.2.1 y.2.2.2.2.2.2.2.1 y.2.2.2.2.2.2.2.2.1 y.2.2.2.2.2.2.2.2.2.1 y.2.2.2.2.2.2.2.2.2.2.1 y.2.2.2.2.2.2.2.2.2.2.2.1 y.2.2.2.2.2.2.2.2.2.2.2.2.1 y.2.2.2.2.2.2.2.2.2.2.2.2.2.1 y.2.2.2.2.2.2.2.2.2.2.2.2.2.2) n ⟨(z16,z17,b6,n4,c5,n5,c6,z21,(Aj .i64 (Int.sub z16 (1:Int))),z18,z19,z20,z21,q5,q6),hm,(.k [1,2] [false] [.tmp 11 false,.tmp 12 false] [1,2,10,11,12,13,14,32,33,35,36] ⟨Bq h7,Bq h8,trivial⟩)⟩ (fun _=>rfl) ?_)
        rintro w2 ⟨z28,z29,b8,n8,c25,n9,c26,z30,z31,z32,z33,z34,z35,q9,q10⟩ hm
        replace hm:Ui pu n (Gn pu n w0) (Oi pu n (Gn pu n w0) w1) (Uj pu n (Gn pu n w0) (Oi pu n (Gn pu n w0) w1) w2) z28 z29 b8 n8 c25 n9 c26 z30 z31 z32 z33 z34 z35 q9 q10=some v:=hm
        unfold Ui at hm
        refine .then (.then (.rK ?_))
        replace hm:=Ae hm;obtain⟨h12,hm⟩:=hm
        replace hm:=Ae hm;obtain⟨h13,hm⟩:=hm
        refine .ghs (fr 103 [(1,zI z28),(2,zI z29),(10,zB b8),(11,sc 1 0 1 n8 c25),(12,sc 2 0 1 n9 c26),(13,zI z30),(14,zI z31),(32,zI z32),(33,zI z33),(35,zI z34),(36,zI z35),(42,(zB (nt (AY z31 (0:Int)))))]) (hT 3 [oC q9,oC q10]) (.k [1,2] [false] [.tmp 11 false,.tmp 12 false] [1,2,10,11,12,13,14,32,33,35,36,42] ⟨Bq h12,Bq h13,trivial⟩) ?_
        replace hm:=Ag hm;rcases hm with⟨h14,hm⟩ | ⟨h14,hm⟩
        ·refine BI (nt (AY z31 (0:Int))) h14 ?_
         refine .skip (.ghs (fr 103 [(1,zI z28),(2,zI z29),(10,zB b8),(11,sc 1 0 1 n8 c25),(12,sc 2 0 1 n9 c26),(13,zI z30),(14,zI z31),(32,zI z32),(33,zI z33),(35,zI z34),(36,zI z35)]) (hT 3 [oC q9,oC q10]) (.k [1,2] [false] [.tmp 11 false,.tmp 12 false] [1,2,10,11,12,13,14,32,33,35,36] ⟨Bq h12,Bq h13,trivial⟩) ?_)
         refine .then (.block ?_)
         replace hm:=Ab hm;obtain⟨k1,h15,hm⟩:=hm
         replace hm:=Ae hm;obtain⟨h16,hm⟩:=hm
         replace hm:=Gp hm;obtain⟨x0,h17,hm⟩:=hm
         replace hm:=Ae hm;obtain⟨h18,hm⟩:=hm
         refine .reg (eC 6 (some ((zI (Aj .i64 (Int.add (Aj .i64 (Int.mul z31 z29)) z30))),(hT 3 [oC q9,oC q10]))) (show _=some ((zI (Int.ofNat k1)),_) from (by rw[AR h15])) (eD (keep (hT 3 [oC q9,oC q10]) (bb (an (Nat.blt k1 n8) true) (some (.pointer (some ⟨1,(0+k1*1),none⟩))) none)) (AX h16) (eD (keep (hT 3 [oC q9,oC q10]) (AL q9 (0+k1*1))) (AZ h17) (eC 1 (Oc 1 8 n9 c26 1 2 q10 [zI x0] [] (hT 4 [oC q9,oC q10,(oC [zI x0])])) (I1 h18) (eE))))) ?_
         replace hm:=Ae hm;obtain⟨h19,hm⟩:=hm
         refine .ghs (fr 103 [(1,zI z28),(2,zI z29),(10,zB b8),(11,sc 1 0 1 n8 c25),(12,(sc 2 0 1 (n9+1) (d2 (n9+1)))),(13,zI z30),(14,zI z31),(32,zI z32),(33,zI z33),(35,zI z34),(36,zI z35)]) (hT 3 [oC q9,(oC (Br (Am 0 q10) [zI x0]))]) (.k [1,4] [false] [.tmp 11 false,.tmp 12 false] [1,2,10,11,12,13,14,32,33,35,36] ⟨Bq h12,Bq h19,trivial⟩) ?_
         refine .rK ?_
         exact⟨(z28,z29,b8,n8,c25,(n9+1),(d2 (n9+1)),z30,(Aj .i64 (Int.sub z31 (1:Int))),z32,z33,z34,z35,q9,(Br (Am 0 q10) [zI x0])),hm,(.k [1,2] [false] [.tmp 11 false,.tmp 12 false] [1,2,10,11,12,13,14,32,33,35,36] ⟨Bq h12,Bq h19,trivial⟩)⟩
        ·refine BO (nt (AY z31 (0:Int))) h14 ?_
         refine .exit ?_
         exact⟨(z28,z29,b8,n8,c25,n9,c26,z32,z33,z34,z35,q9,q10),hm,(.k [1,2] [false] [.tmp 11 false,.tmp 12 false] [1,2,10,11,12,32,33,35,36] ⟨Bq h12,Bq h13,trivial⟩)⟩
      ·refine BO (AY z21 z20) h9 ?_
       refine .exit ?_
       exact⟨(z16,z17,b6,n5,c6,z18,z19,q6),hm,(.k [2] [false] [.tmp 12 false] [1,2,10,12,32,33] ⟨Bq h8,trivial⟩)⟩
   ·refine BO (AY z7 z6) h4 ?_
    refine .exit ?_
    exact⟨(z5,b2,n1,c1,q1),hm,(.k [1] [false] [.tmp 11 false] [2,10,11] ⟨Bq h3,trivial⟩)⟩
theorem r10 {call:A8} (pu:Af) (n:Nat) (hcall:call=Bb tabs isP pu (inl pu)) {args:LV} {v:Value} (hm:m10 pu n args=some v) (_:∀ x∈args,closed2 x=true):args.length≤103∧BN tt call 1 PN (Fr.made 103 args) (Ao tabs) (Fin tt 1 [.tmp 8] v):=by
 subst hcall
 unfold m10 at hm
 replace hm:=Ad hm;obtain⟨a0,args_0,rfl,hm⟩:=hm
 replace hm:=Ad hm;obtain⟨a1,args_1,rfl,hm⟩:=hm
 replace hm:=Ad hm;obtain⟨a2,args_2,rfl,hm⟩:=hm
 replace hm:=Ad hm;obtain⟨a3,args_3,rfl,hm⟩:=hm
 replace hm:=AC hm;obtain⟨rfl,hm⟩:=hm
 replace hm:=Al hm;obtain⟨s0,rfl,hm⟩:=hm
 replace hm:=Ai hm;obtain⟨x0,rfl,hm⟩:=hm
 replace hm:=Ai hm;obtain⟨x1,rfl,hm⟩:=hm
 replace hm:=Ai hm;obtain⟨x2,rfl,hm⟩:=hm
 unfold Acc at hm
 refine⟨by simp,?_⟩
 refine .same (F':=(fr 103 [(0,Sl.v 1 s0),(1,zI x0),(2,zI x1),(3,zI x2)])) (H':=Ay) (by kernel_rfl) (by kernel_rfl) ?_
 refine .then (.rK (.ghs (fr 103 [(0,Sl.v 1 s0),(1,zI x0),(2,zI x1),(3,zI x2)]) Ay (.k0 [false] [] [0,1,2,3]) ?_))
 refine .then (.rK (.ghs (fr 103 [(0,Sl.v 1 s0),(1,zI x0),(2,zI x1),(3,zI x2),(9,zI x2),(10,zB false)]) Ay (.k0 [false] [] [0,1,2,3,9,10]) ?_))
 refine .join (v:=v) (fun y:Sl×Int×Int×Int×Bool=>((fr 103 [(0,(Sl.v 1 y.1)),(1,(zI y.2.1)),(2,(zI y.2.2.1)),(9,(zI y.2.2.2.1)),(10,(zB y.2.2.2.2))]),Ay)) (fun y=>LP pu n y.1 y.2.1 y.2.2.1 y.2.2.2.1 y.2.2.2.2) ?_ ?_
 ·rintro⟨s1,z0,z1,z2,b0⟩ hm
  exact Acf pu n s1 z0 z1 z2 b0 hm
 ·refine .then (.rK (.ghs (fr 103 [(0,Sl.v 1 s0),(1,zI x0),(2,zI x1),(9,zI x2),(10,zB false),(20,zI x2)]) Ay (.k0 [false] [] [0,1,2,9,10,20]) ?_))
  refine .block (.then (.rK (.ghs (fr 103 [(0,Sl.v 1 s0),(1,zI x0),(2,zI x1),(9,zI x2),(10,zB false),(20,zI x2),(21,(zB (Bd x2 (4:Int))))]) Ay (.k0 [false] [] [0,1,2,9,10,20,21]) ?_)))
  replace hm:=Ag hm;rcases hm with⟨h0,hm⟩ | ⟨h0,hm⟩
  ·refine BI (Bd x2 (4:Int)) h0 ?_
   refine .rK ?_
   exact⟨(s0,x0,x1,(0:Int),true),hm,(.k0 [false] [] [0,1,2,9,10])⟩
  ·refine BO (Bd x2 (4:Int)) h0 ?_
   refine .then (.rK (.ghs (fr 103 [(0,Sl.v 1 s0),(1,zI x0),(2,zI x1),(9,zI x2),(10,zB false),(20,zI x2),(23,(zB (Bd x2 (5:Int))))]) Ay (.k0 [false] [] [0,1,2,9,10,20,23]) ?_))
   replace hm:=Ag hm;rcases hm with⟨h1,hm⟩ | ⟨h1,hm⟩
   ·refine BI (Bd x2 (5:Int)) h1 ?_
    refine .rK ?_
    exact⟨(s0,x0,x1,(2:Int),true),hm,(.k0 [false] [] [0,1,2,9,10])⟩
   ·refine BO (Bd x2 (5:Int)) h1 ?_
    refine .then (.rK (.ghs (fr 103 [(0,Sl.v 1 s0),(1,zI x0),(2,zI x1),(9,zI x2),(10,zB false),(20,zI x2),(25,(zB (Bd x2 (6:Int))))]) Ay (.k0 [false] [] [0,1,2,9,10,20,25]) ?_))
    replace hm:=Ag hm;rcases hm with⟨h2,hm⟩ | ⟨h2,hm⟩
    ·refine BI (Bd x2 (6:Int)) h2 ?_
     refine .rK ?_
     exact⟨(s0,x0,x1,(1:Int),true),hm,(.k0 [false] [] [0,1,2,9,10])⟩
    ·refine BO (Bd x2 (6:Int)) h2 ?_
     refine .then (.rK (.ghs (fr 103 [(0,Sl.v 1 s0),(1,zI x0),(2,zI x1),(9,zI x2),(10,zB false),(27,(zB (Bd x2 (7:Int))))]) Ay (.k0 [false] [] [0,1,2,9,10,27]) ?_))
     replace hm:=Ag hm;rcases hm with⟨h3,hm⟩ | ⟨h3,hm⟩
     ·refine BI (Bd x2 (7:Int)) h3 ?_
      refine .rK ?_
      exact⟨(s0,x0,x1,(3:Int),true),hm,(.k0 [false] [] [0,1,2,9,10])⟩
     ·refine BO (Bd x2 (7:Int)) h3 ?_
      refine .skip ?_
      exact⟨(s0,x0,x1,x2,false),hm,(.k0 [false] [] [0,1,2,9,10])⟩
end
end Go.BkSM
