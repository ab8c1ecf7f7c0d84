/- Made from wip. -/
import Derived.Test.YtpfpakeeaehmhaaDoorTbWMod0x

set_option maxRecDepth 100000
set_option maxHeartbeats 20000000
set_option linter.unusedVariables false
namespace Go.TbWM
open Go.Sp Go.TbW
noncomputable section
def Pk (pu:Af) (n n0 c0:Nat) (q0:LV):OV:=
 (bb (Au Ah q0) (bb (an (Nat.ble (0+n0*1) (len q0)) (Au Ah (Aq (n0*1) (Am 0 q0)))) (some (.tuple ⟨[(Sl.v 1 (Sl.mk n0 0 (Aq (n0*1) (Am 0 q0)))),(.int .i64 (0:Int))]⟩)) none) none)
def QS (pu:Af) (n:Nat) (ih0:Nat→Nat→Sl→Int→Int→LV→OV) (n0 c0:Nat) (s0:Sl) (z0 z1:Int) (q0:LV):OV:=
 (bb (Au Ah q0) (bb (AY z1 z0) (oo (EA z1) none fun k1=>(bb (an (Nat.blt k1 (Sl.n s0)) true) (bb (Nat.ble ((k1*2)+2) (len (Sl.cs s0))) (oo (AL (Sl.cs s0) (k1*2)) none fun v0=>(oo (Bi .i64 v0) none fun x0=>(oo (AL (Sl.cs s0) ((k1*2)+1)) none fun v1=>(oo (Bi .i64 v1) none fun x1=>(oo (EA x0) none fun k2=>(bb (an (Nat.blt k2 n0) true) (oo (AL q0 (0+k2*1)) none fun v2=>(oo (Bi .i64 v2) none fun x2=>(oo (EA x1) none fun k3=>(bb (an (Nat.blt k3 n0) true) (oo (AL q0 (0+k3*1)) none fun v3=>(oo (Bi .i64 v3) none fun x3=>(bb (an (Nat.blt k2 n0) true) (oo (AL q0 (0+k2*1)) none fun v4=>(oo (Bi .i64 v4) none fun x4=>(bb (an (Nat.blt k3 n0) true) (oo (AL q0 (0+k3*1)) none fun v5=>(oo (Bi .i64 v5) none fun x5=>(bb (an (Nat.blt k2 n0) true) (bb (an (Nat.ble ((0+k2*1)+1) (len q0)) true) (bb (an (Nat.blt k3 n0) true) (bb (an (Nat.ble ((0+k3*1)+1) (len (BM ([(.int .i64 (bb (AY x3 x2) x3 x2))]:LV) (0+k2*1) q0))) true) (bb (Au Ah (BM ([(.int .i64 (bb (AY x4 x5) x5 x4))]:LV) (0+k3*1) (BM ([(.int .i64 (bb (AY x3 x2) x3 x2))]:LV) (0+k2*1) q0))) (ih0 n0 c0 s0 z0 (Aj .i64 (Int.add (Int.ofNat k1) (1:Int))) (BM ([(.int .i64 (bb (AY x4 x5) x5 x4))]:LV) (0+k3*1) (BM ([(.int .i64 (bb (AY x3 x2) x3 x2))]:LV) (0+k2*1) q0))) none) none) none) none) none))) none))) none))) none)))) none)))))) none) none)) (Pk pu n n0 c0 q0)) none)
def RO (pu:Af) (n w:Nat):Nat→Nat→Sl→Int→Int→LV→OV:=
 Nat.rec (motive:=fun _=>Nat→Nat→Sl→Int→Int→LV→OV) (fun _ _ _ _ _ _=>none) (fun _ ih0=>QS pu n ih0) w
def Xe (pu:Af) (n:Nat) (x0:Int) (s0 s1:Sl):OV:=
 (oo (pu 55 [(.agg ⟨[.int .i64 x0,(Sl.v 2 s0)]⟩)]) none fun v0=>(oo (Bi .i64 v0) none fun x1=>(bb (nt (Bd x1 (0:Int))) (some (.tuple ⟨[(Sl.v 1 (Sl.mk 0 2 [])),.int .i64 x1]⟩)) (bb (nt (Bd (Int.ofNat (Sl.n s1)) x0)) (some (.tuple ⟨[(Sl.v 1 (Sl.mk 0 2 [])),(.int .i64 (5:Int))]⟩)) (bb (EQ (0+(Sl.n s1)) 8) (bb (Au Ah (Aq ((Sl.n s1)*1) (Sl.cs s1))) (RO pu n n (Sl.n s1) (2*(Sl.n s1)+bb false 1 0) s0 (Int.ofNat (Sl.n s0)) (0:Int) (Aq ((Sl.n s1)*1) (Sl.cs s1))) none) none)))))
def m27 (pu:Af) (n:Nat) (args:LV):OV:=
 (ll args none fun a0 args=>(ll args none fun a1 args=>(ll args (oo (Bt a0) none fun l0=>(ll l0 none fun v0 l0=>(ll l0 none fun v1 l0=>(ll l0 (oo (Bi .i64 v0) none fun x0=>(oo (Bj 2 v1) none fun s0=>(oo (Bj 1 a1) none fun s1=>(Xe pu n x0 s0 s1)))) fun _ _=>none)))) fun _ _=>none)))
theorem xD (pu:Af) (n n0 c0:Nat) (q0:LV) {v:Value} (hm:Pk pu n n0 c0 q0=some v):BN tt (Bb tabs FM pu (inl pu)) 1 UX (fr 63 [(7,sc 1 0 1 n0 c0)]) (hT 2 [oC q0]) (Fin tt 1 [.tmp 4,.tmp 5] v):=by
 unfold Pk at hm
 refine .then (.rK ?_)
 replace hm:=Ae hm;obtain⟨h0,hm⟩:=hm
 refine .ghs (fr 63 [(4,sc 1 0 1 n0 c0),(5,(zI (0:Int)))]) (hT 2 [oC q0]) (.k [1] [false] [.tmp 4 false] [4,5] ⟨Bq h0,trivial⟩) ?_
 replace hm:=Ae hm;obtain⟨h1,hm⟩:=hm
 refine .ghs (Fr.puts (fr 63 [(4,sc 1 0 1 n0 c0),(5,(zI (0:Int)))]) [(4,(Sl.v 1 (Sl.mk n0 0 (Aq (n0*1) (Am 0 q0)))))]) (hT 2 [.dead]) (.freezeC 1 4 1 (an (Nat.ble (0+n0*1) (len q0)) (Au Ah (Aq (n0*1) (Am 0 q0)))) (F1:=(Fr.puts (fr 63 [(4,sc 1 0 1 n0 c0),(5,(zI (0:Int)))]) [(4,(Sl.v 1 (Sl.mk n0 0 (Aq (n0*1) (Am 0 q0)))))])) (H1:=(hT 2 [.dead])) (by kernel_rfl) (by kernel_rfl) h1 (E9.id _ _)) ?_
 refine .ret ?_
 exact Cs (.tuple ⟨[(Sl.v 1 (Sl.mk n0 0 (Aq (n0*1) (Am 0 q0)))),(zI (0:Int))]⟩) hm
theorem r27 {call:A8} (pu:Af) (n:Nat) (hcall:call=Bb tabs FM pu (inl pu)) {args:LV} {v:Value} (hm:m27 pu n args=some v) (_:∀ x∈args,closed2 x=true):args.length≤63∧BN tt call 1 PN (Fr.made 63 args) (Ao tabs) (Fin tt 1 [.tmp 4,.tmp 5] v):=by
 subst hcall
 unfold m27 at hm
 replace hm:=Ad hm;obtain⟨a0,args_0,rfl,hm⟩:=hm
 replace hm:=Ad hm;obtain⟨a1,args_1,rfl,hm⟩:=hm
 replace hm:=AC hm;obtain⟨rfl,hm⟩:=hm
 replace hm:=BG hm;obtain⟨l0,rfl,hm⟩:=hm
 replace hm:=Ad hm;obtain⟨v0,l6636_0,rfl,hm⟩:=hm
 replace hm:=Ad hm;obtain⟨v1,l6636_1,rfl,hm⟩:=hm
 replace hm:=AC hm;obtain⟨rfl,hm⟩:=hm
 replace hm:=Ai hm;obtain⟨x0,rfl,hm⟩:=hm
 replace hm:=Al hm;obtain⟨s0,rfl,hm⟩:=hm
 replace hm:=Al hm;obtain⟨s1,rfl,hm⟩:=hm
 unfold Xe at hm
 refine⟨by simp,?_⟩
 refine .same (F':=(fr 63 [(0,(.agg ⟨[zI x0,(Sl.v 2 s0)]⟩)),(1,Sl.v 1 s1)])) (H':=Co) (by kernel_rfl) (by kernel_rfl) ?_
 refine .then (.rK (.ghs (fr 63 [(1,Sl.v 1 s1),(2,pt 1 0)]) (hT 2 [(oC [zI x0,(Sl.v 2 s0)])]) (.k0 [false] [.tmp 2 false] [1,2]) ?_))
 refine .then ?_
 replace hm:=I9 hm;obtain⟨x1,h0,hm⟩:=hm
 refine .reg (eC 1 ((oo (pu 55 [(.agg ⟨[zI x0,(Sl.v 2 s0)]⟩)]) none fun v=>some (v,(hT 2 [(oC [zI x0,(Sl.v 2 s0)])])))) (AB h0) (eE)) ?_
 refine .ghs (fr 63 [(1,Sl.v 1 s1),(2,pt 1 0),(6,zI x1)]) (hT 2 [(oC [zI x0,(Sl.v 2 s0)])]) (.k0 [false] [.tmp 2 false] [1,2,6]) ?_
 refine .then (.block (.then (.rK (.ghs (fr 63 [(1,Sl.v 1 s1),(2,pt 1 0),(6,zI x1),(12,(zB (nt (Bd x1 (0:Int)))))]) (hT 2 [(oC [zI x0,(Sl.v 2 s0)])]) (.k0 [false] [.tmp 2 false] [1,2,6,12]) ?_))))
 replace hm:=Ag hm;rcases hm with⟨h1,hm⟩ | ⟨h1,hm⟩
 ·refine DL (nt (Bd x1 (0:Int))) h1 ?_
  refine .then (.rK (.ghs (fr 63 [(4,(.slice none 0 0)),(5,zI x1)]) Co (.k0 [false] [] [4,5]) ?_))
  refine .ghs (Fr.puts (fr 63 [(4,(.slice none 0 0)),(5,zI x1)]) [(4,(Sl.v 1 (Sl.mk 0 2 [])))]) Co (.freeze 1 4 1 (by kernel_rfl) (by kernel_rfl) (E9.id _ _)) ?_
  refine .ret ?_
  exact Cs (.tuple ⟨[(Sl.v 1 (Sl.mk 0 2 [])),zI x1]⟩) hm
 ·refine DT (nt (Bd x1 (0:Int))) h1 ?_
  refine .then (.rK (.ghs (fr 63 [(1,Sl.v 1 s1),(2,pt 1 0),(16,(zB (nt (Bd (Int.ofNat (Sl.n s1)) x0))))]) (hT 2 [(oC [zI x0,(Sl.v 2 s0)])]) (.k0 [false] [.tmp 2 false] [1,2,16]) ?_))
  replace hm:=Ag hm;rcases hm with⟨h2,hm⟩ | ⟨h2,hm⟩
  ·refine DL (nt (Bd (Int.ofNat (Sl.n s1)) x0)) h2 ?_
   refine .then (.rK (.ghs (fr 63 [(4,(.slice none 0 0)),(5,(zI (5:Int)))]) Co (.k0 [false] [] [4,5]) ?_))
   refine .ghs (Fr.puts (fr 63 [(4,(.slice none 0 0)),(5,(zI (5:Int)))]) [(4,(Sl.v 1 (Sl.mk 0 2 [])))]) Co (.freeze 1 4 1 (by kernel_rfl) (by kernel_rfl) (E9.id _ _)) ?_
   refine .ret ?_
   exact Cs (.tuple ⟨[(Sl.v 1 (Sl.mk 0 2 [])),(zI (5:Int))]⟩) hm
  ·refine DT (nt (Bd (Int.ofNat (Sl.n s1)) x0)) h2 ?_
   refine .skip (.ghs (fr 63 [(1,Sl.v 1 s1),(2,pt 1 0)]) (hT 2 [(oC [zI x0,(Sl.v 2 s0)])]) (.k0 [false] [.tmp 2 false] [1,2]) ?_)
   refine .then ?_
   replace hm:=Ae hm;obtain⟨h3,hm⟩:=hm
   refine .reg (eC 1 (bb (EQ (0+(Sl.n s1)) 8) (some ((sc 3 0 1 (Sl.n s1) (d2 (Sl.n s1))),(hT 4 [(oC [zI x0,(Sl.v 2 s0)]),(oC []),(oC (Aq ((Sl.n s1)*1) (Sl.cs s1)))]))) none) (kH h3) (eE)) ?_
   replace hm:=Ae hm;obtain⟨h4,hm⟩:=hm
   refine .ghs (fr 63 [(2,pt 1 0),(7,(sc 2 0 1 (Sl.n s1) (d2 (Sl.n s1))))]) (hT 3 [(oC [zI x0,(Sl.v 2 s0)]),(oC (Aq ((Sl.n s1)*1) (Sl.cs s1)))]) (.k [3] [false] [.tmp 2 false,.tmp 7 false] [2,7] ⟨Bq h4,trivial⟩) ?_
   refine .join (v:=v) (fun y:Nat×Nat×LV=>((fr 63 [(7,(sc 1 0 1 y.1 y.2.1))]),(hT 2 [(oC y.2.2)]))) (fun y=>Pk pu n y.1 y.2.1 y.2.2) ?_ ?_
   ·rintro⟨n0,c0,q0⟩ hm
    exact xD pu n n0 c0 q0 hm
   ·refine .then (.rK (.ghs (fr 63 [(7,(sc 1 0 1 (Sl.n s1) (d2 (Sl.n s1)))),(25,(Sl.v 2 s0)),(26,(zI (Int.ofNat (Sl.n s0)))),(27,(zI (0:Int)))]) (hT 2 [(oC (Aq ((Sl.n s1)*1) (Sl.cs s1)))]) (.k [2] [false] [.tmp 7 false] [7,25,26,27] ⟨Bq h4,trivial⟩) ?_))
    refine .block (.loopM (v:=v) (fun y:Nat×Nat×Sl×Int×Int×LV=>((fr 63 [(7,(sc 1 0 1 y.1 y.2.1)),(25,(Sl.v 2 y.2.2.1)),(26,(zI y.2.2.2.1)),(27,(zI y.2.2.2.2.1))]),(hT 2 [(oC y.2.2.2.2.2)]))) (fun w y=>RO pu n w y.1 y.2.1 y.2.2.1 y.2.2.2.1 y.2.2.2.2.1 y.2.2.2.2.2) n ⟨((Sl.n s1),(d2 (Sl.n s1)),s0,(Int.ofNat (Sl.n s0)),(0:Int),(Aq ((Sl.n s1)*1) (Sl.cs s1))),hm,(.k [1] [false] [.tmp 7 false] [7,25,26,27] ⟨Bq h4,trivial⟩)⟩ (fun _=>rfl) ?_)
    rintro w0 ⟨n1,c1,s2,z0,z1,q1⟩ hm
    replace hm:QS pu n (RO pu n w0) n1 c1 s2 z0 z1 q1=some v:=hm
    unfold QS at hm
    refine .then (.rK ?_)
    replace hm:=Ae hm;obtain⟨h5,hm⟩:=hm
    refine .ghs (fr 63 [(7,sc 1 0 1 n1 c1),(25,(Sl.v 2 s2)),(26,zI z0),(27,zI z1),(28,(zB (AY z1 z0)))]) (hT 2 [oC q1]) (.k [1] [false] [.tmp 7 false] [7,25,26,27,28] ⟨Bq h5,trivial⟩) ?_
    refine .then ?_
    replace hm:=Ag hm;rcases hm with⟨h6,hm⟩ | ⟨h6,hm⟩
    ·refine DL (AY z1 z0) h6 ?_
     refine .skip (.ghs (fr 63 [(7,sc 1 0 1 n1 c1),(25,(Sl.v 2 s2)),(26,zI z0),(27,zI z1)]) (hT 2 [oC q1]) (.k [1] [false] [.tmp 7 false] [7,25,26,27] ⟨Bq h5,trivial⟩) ?_)
     refine .then (.block (.then ?_))
     replace hm:=Ab hm;obtain⟨k1,h7,hm⟩:=hm
     obtain rfl:=AR h7
     replace hm:=Ae hm;obtain⟨h8,hm⟩:=hm
     replace hm:=Ae hm;obtain⟨h9,hm⟩:=hm
     replace hm:=I9 hm;obtain⟨x2,h10,hm⟩:=hm
     replace hm:=I9 hm;obtain⟨x3,h11,hm⟩:=hm
     refine .reg (eD (keep (hT 2 [oC q1]) (bb (an (Nat.blt k1 (Sl.n s2)) true) (some (Cv (k1*2) (Sl.cs s2))) none)) (AX h8) (eD (keep (hT 2 [oC q1]) (bb (Nat.ble ((k1*2)+2) (len (Sl.cs s2))) (some (.agg ⟨Aq 2 (Am (k1*2) (Sl.cs s2))⟩)) none)) (Pd h9 (Ca h10 (Ca h11 rfl))) (eE))) ?_
     refine .ghs (fr 63 [(7,sc 1 0 1 n1 c1),(9,(pt 2 0)),(25,(Sl.v 2 s2)),(26,zI z0),(27,(zI (Int.ofNat k1)))]) (hT 3 [oC q1,(oC [zI x2,zI x3])]) (.k [1] [false] [.tmp 7 false,.tmp 9 false] [7,9,25,26,27] ⟨Bq h5,trivial⟩) ?_
     replace hm:=Ab hm;obtain⟨k2,h12,hm⟩:=hm
     obtain rfl:=AR h12
     replace hm:=Ae hm;obtain⟨h13,hm⟩:=hm
     replace hm:=I9 hm;obtain⟨x4,h14,hm⟩:=hm
     replace hm:=Ab hm;obtain⟨k3,h15,hm⟩:=hm
     obtain rfl:=AR h15
     replace hm:=Ae hm;obtain⟨h16,hm⟩:=hm
     replace hm:=I9 hm;obtain⟨x5,h17,hm⟩:=hm
     replace hm:=Ae hm;obtain⟨h18,hm⟩:=hm
     replace hm:=I9 hm;obtain⟨x6,h19,hm⟩:=hm
     replace hm:=Ae hm;obtain⟨h20,hm⟩:=hm
     replace hm:=I9 hm;obtain⟨x7,h21,hm⟩:=hm
     replace hm:=Ae hm;obtain⟨h22,hm⟩:=hm
     replace hm:=Ae hm;obtain⟨h23,hm⟩:=hm
     replace hm:=Ae hm;obtain⟨h24,hm⟩:=hm
     replace hm:=Ae hm;obtain⟨h25,hm⟩:=hm
     refine .reg (eN 15 (Fr.puts (fr 63 [(7,sc 1 0 1 n1 c1),(9,(pt 2 0)),(25,(Sl.v 2 s2)),(26,zI z0),(27,(zI (Int.ofNat k1)))]) [(31,sc 1 0 1 n1 c1),(32,(pt 2 0)),(33,(zI (Int.ofNat k2))),(34,sc 1 0 1 n1 c1),(35,(pt 2 1)),(36,(zI (Int.ofNat k3))),(37,sc 1 0 1 n1 c1),(38,(pt 2 0)),(39,(zI (Int.ofNat k2))),(40,(.pointer (some ⟨1,(0+k2*1),none⟩))),(41,zI x4),(42,sc 1 0 1 n1 c1),(43,(pt 2 1)),(44,(zI (Int.ofNat k3))),(45,(.pointer (some ⟨1,(0+k3*1),none⟩)))]) (hT 3 [oC q1,(oC [(zI (Int.ofNat k2)),(zI (Int.ofNat k3))])]) (eC 9 (keep (hT 3 [oC q1,(oC [(zI (Int.ofNat k2)),(zI (Int.ofNat k3))])]) (bb (an (Nat.blt k2 n1) true) (some (.pointer (some ⟨1,(0+k2*1),none⟩))) none)) (AX h13) (eD (keep (hT 3 [oC q1,(oC [(zI (Int.ofNat k2)),(zI (Int.ofNat k3))])]) (AL q1 (0+k2*1))) (AZ h14) (eC 3 (keep (hT 3 [oC q1,(oC [(zI (Int.ofNat k2)),(zI (Int.ofNat k3))])]) (bb (an (Nat.blt k3 n1) true) (some (.pointer (some ⟨1,(0+k3*1),none⟩))) none)) (AX h16) (by kernel_rfl)))) (eN 7 (Fr.puts (fr 63 [(7,sc 1 0 1 n1 c1),(9,(pt 2 0)),(25,(Sl.v 2 s2)),(26,zI z0),(27,(zI (Int.ofNat k1)))]) [(31,sc 1 0 1 n1 c1),(32,(pt 2 0)),(33,(zI (Int.ofNat k2))),(34,sc 1 0 1 n1 c1),(35,(pt 2 1)),(36,(zI (Int.ofNat k3))),(37,sc 1 0 1 n1 c1),(38,(pt 2 0)),(39,(zI (Int.ofNat k2))),(40,(.pointer (some ⟨1,(0+k2*1),none⟩))),(41,zI x4),(42,sc 1 0 1 n1 c1),(43,(pt 2 1)),(44,(zI (Int.ofNat k3))),(45,(.pointer (some ⟨1,(0+k3*1),none⟩))),(46,zI x5),(47,(zI (bb (AY x5 x4) x5 x4))),(48,sc 1 0 1 n1 c1),(49,(pt 2 0)),(50,(zI (Int.ofNat k2))),(51,(.pointer (some ⟨1,(0+k2*1),none⟩))),(52,zI x6)]) (hT 3 [oC q1,(oC [(zI (Int.ofNat k2)),(zI (Int.ofNat k3))])]) (eD (keep (hT 3 [oC q1,(oC [(zI (Int.ofNat k2)),(zI (Int.ofNat k3))])]) (AL q1 (0+k3*1))) (AZ h17) (eC 4 (keep (hT 3 [oC q1,(oC [(zI (Int.ofNat k2)),(zI (Int.ofNat k3))])]) (bb (an (Nat.blt k2 n1) true) (some (.pointer (some ⟨1,(0+k2*1),none⟩))) none)) (AX h18) (eD (keep (hT 3 [oC q1,(oC [(zI (Int.ofNat k2)),(zI (Int.ofNat k3))])]) (AL q1 (0+k2*1))) (AZ h19) (by kernel_rfl)))) (eN 7 (Fr.puts (fr 63 [(7,sc 1 0 1 n1 c1),(9,(pt 2 0)),(25,(Sl.v 2 s2)),(26,zI z0),(27,(zI (Int.ofNat k1)))]) [(31,sc 1 0 1 n1 c1),(32,(pt 2 0)),(33,(zI (Int.ofNat k2))),(34,sc 1 0 1 n1 c1),(35,(pt 2 1)),(36,(zI (Int.ofNat k3))),(37,sc 1 0 1 n1 c1),(38,(pt 2 0)),(39,(zI (Int.ofNat k2))),(40,(.pointer (some ⟨1,(0+k2*1),none⟩))),(41,zI x4),(42,sc 1 0 1 n1 c1),(43,(pt 2 1)),(44,(zI (Int.ofNat k3))),(45,(.pointer (some ⟨1,(0+k3*1),none⟩))),(46,zI x5),(47,(zI (bb (AY x5 x4) x5 x4))),(48,sc 1 0 1 n1 c1),(49,(pt 2 0)),(50,(zI (Int.ofNat k2))),(51,(.pointer (some ⟨1,(0+k2*1),none⟩))),(52,zI x6),(53,sc 1 0 1 n1 c1),(54,(pt 2 1)),(55,(zI (Int.ofNat k3))),(56,(.pointer (some ⟨1,(0+k3*1),none⟩))),(57,zI x7),(58,(zI (bb (AY x6 x7) x7 x6))),(59,(.pointer (some ⟨1,(0+k2*1),none⟩)))]) (hT 3 [oC q1,(oC [(zI (Int.ofNat k2)),(zI (Int.ofNat k3))])]) (eC 3 (keep (hT 3 [oC q1,(oC [(zI (Int.ofNat k2)),(zI (Int.ofNat k3))])]) (bb (an (Nat.blt k3 n1) true) (some (.pointer (some ⟨1,(0+k3*1),none⟩))) none)) (AX h20) (eD (keep (hT 3 [oC q1,(oC [(zI (Int.ofNat k2)),(zI (Int.ofNat k3))])]) (AL q1 (0+k3*1))) (AZ h21) (eC 1 (keep (hT 3 [oC q1,(oC [(zI (Int.ofNat k2)),(zI (Int.ofNat k3))])]) (bb (an (Nat.blt k2 n1) true) (some (.pointer (some ⟨1,(0+k2*1),none⟩))) none)) (AX h22) (by kernel_rfl)))) (eD (done (bb (an (Nat.ble ((0+k2*1)+1) (len q1)) true) (some (hT 3 [(oC (BM ([(zI (bb (AY x5 x4) x5 x4))]:LV) (0+k2*1) q1)),(oC [(zI (Int.ofNat k2)),(zI (Int.ofNat k3))])])) none) undef) (Js h23) (eD (keep (hT 3 [(oC (BM ([(zI (bb (AY x5 x4) x5 x4))]:LV) (0+k2*1) q1)),(oC [(zI (Int.ofNat k2)),(zI (Int.ofNat k3))])]) (bb (an (Nat.blt k3 n1) true) (some (.pointer (some ⟨1,(0+k3*1),none⟩))) none)) (AX h24) (eD (done (bb (an (Nat.ble ((0+k3*1)+1) (len (BM ([(zI (bb (AY x5 x4) x5 x4))]:LV) (0+k2*1) q1))) true) (some (hT 3 [(oC (BM ([(zI (bb (AY x6 x7) x7 x6))]:LV) (0+k3*1) (BM ([(zI (bb (AY x5 x4) x5 x4))]:LV) (0+k2*1) q1))),(oC [(zI (Int.ofNat k2)),(zI (Int.ofNat k3))])])) none) undef) (Js h25) (eE))))))) ?_
     replace hm:=Ae hm;obtain⟨h26,hm⟩:=hm
     refine .ghs (fr 63 [(7,sc 1 0 1 n1 c1),(25,(Sl.v 2 s2)),(26,zI z0),(27,(zI (Int.ofNat k1)))]) (hT 2 [(oC (BM ([(zI (bb (AY x6 x7) x7 x6))]:LV) (0+k3*1) (BM ([(zI (bb (AY x5 x4) x5 x4))]:LV) (0+k2*1) q1)))]) (.k [1] [false] [.tmp 7 false] [7,25,26,27] ⟨Bq h26,trivial⟩) ?_
     refine .rK ?_
     exact⟨(n1,c1,s2,z0,(Aj .i64 (Int.add (Int.ofNat k1) (1:Int))),(BM ([(zI (bb (AY x6 x7) x7 x6))]:LV) (0+k3*1) (BM ([(zI (bb (AY x5 x4) x5 x4))]:LV) (0+k2*1) q1))),hm,(.k [1] [false] [.tmp 7 false] [7,25,26,27] ⟨Bq h26,trivial⟩)⟩
    ·refine DT (AY z1 z0) h6 ?_
     refine .exit ?_
     exact⟨(n1,c1,q1),hm,(.k [1] [false] [.tmp 7 false] [7] ⟨Bq h5,trivial⟩)⟩
def Pm (pu:Af) (n n0 c0 n1 c1:Nat) (q0:LV) (q1:LV):OV:=
 (bb (Au Ah q0) (bb (Au Ah q1) (bb (an (Nat.ble (0+n0*1) (len q0)) (Au Ah (Aq (n0*1) (Am 0 q0)))) (bb (an (Nat.ble (0+n1*1) (len q1)) (Au Ah (Aq (n1*1) (Am 0 q1)))) (some (.tuple ⟨[(Sl.v 1 (Sl.mk n0 0 (Aq (n0*1) (Am 0 q0)))),(Sl.v 1 (Sl.mk n1 0 (Aq (n1*1) (Am 0 q1))))]⟩)) none) none) none) none)
def Pn (pu:Af) (n:Nat) (ih0:Int→Nat→Nat→Nat→Nat→Sl→Int→Int→LV→LV→OV) (z0:Int) (n0 c0 n1 c1:Nat) (s0:Sl) (z1 z2:Int) (q0:LV) (q1:LV):OV:=
 (bb (Au Ah q0) (bb (Au Ah q1) (ih0 z0 n0 c0 n1 c1 s0 z1 (Aj .i64 (Int.add z2 (1:Int))) q0 q1) none) none)
def Po (pu:Af) (n:Nat) (ih0:Int→Nat→Nat→Nat→Nat→Sl→Int→Int→LV→LV→OV) (z0:Int) (n0 c0 n1 c1:Nat) (z1:Int) (s0:Sl) (z2 z3:Int) (b0:Bool) (q0:LV) (q1:LV) (z4 z5:Int):OV:=
 (bb b0 (oo (EA z5) none fun k1=>(bb (an (Nat.blt k1 n0) true) (oo (AL q0 (0+k1*1)) none fun v0=>(oo (Bi .i64 v0) none fun x0=>(oo (EA z4) none fun k2=>(bb (an (Nat.blt k2 n0) true) (oo (AL q0 (0+k2*1)) none fun v1=>(oo (Bi .i64 v1) none fun x1=>(bb (an (Nat.blt k2 n0) true) (bb (an (Nat.ble ((0+k2*1)+1) (len q0)) true) (bb (an (Nat.blt k1 n0) true) (bb (an (Nat.ble ((0+k1*1)+1) (len (BM ([.int .i64 x0]:LV) (0+k2*1) q0))) true) (bb (Au Ah (BM ([.int .i64 x1]:LV) (0+k1*1) (BM ([.int .i64 x0]:LV) (0+k2*1) q0))) (bb (Au Ah q1) (oo (EA z1) none fun k3=>(bb (an (Nat.blt k3 n1) true) (bb (an (Nat.ble ((0+k3*1)+1) (len q1)) true) (bb (Au Ah (BM ([(.bool true)]:LV) (0+k3*1) q1)) (Pn pu n ih0 z0 n0 c0 n1 c1 s0 z2 z3 (BM ([.int .i64 x1]:LV) (0+k1*1) (BM ([.int .i64 x0]:LV) (0+k2*1) q0)) (BM ([(.bool true)]:LV) (0+k3*1) q1)) none) none) none)) none) none) none) none) none) none))) none)))) none)) (bb (Au Ah q0) (bb (Au Ah q1) (Pn pu n ih0 z0 n0 c0 n1 c1 s0 z2 z3 q0 q1) none) none))
def OB (pu:Af) (n:Nat) (ih0:Int→Nat→Nat→Nat→Nat→Sl→Int→Int→LV→LV→OV) (z0:Int) (n0 c0 n1 c1:Nat) (s0:Sl) (z1 z2:Int) (q0:LV) (q1:LV):OV:=
 (bb (Au Ah q0) (bb (Au Ah q1) (bb (AY z2 z1) (oo (EA z2) none fun k1=>(bb (an (Nat.blt k1 (Sl.n s0)) true) (bb (Nat.ble ((k1*2)+2) (len (Sl.cs s0))) (oo (AL (Sl.cs s0) (k1*2)) none fun v0=>(oo (Bi .i64 v0) none fun x0=>(oo (AL (Sl.cs s0) ((k1*2)+1)) none fun v1=>(oo (Bi .i64 v1) none fun x1=>(bb (nt (Bd (Int.ofNat k1) z0)) (oo (EA x0) none fun k2=>(bb (an (Nat.blt k2 n0) true) (oo (AL q0 (0+k2*1)) none fun v2=>(oo (Bi .i64 v2) none fun x2=>(oo (EA x1) none fun k3=>(bb (an (Nat.blt k3 n0) true) (oo (AL q0 (0+k3*1)) none fun v3=>(oo (Bi .i64 v3) none fun x3=>(Po pu n ih0 z0 n0 c0 n1 c1 (Int.ofNat k1) s0 z1 (Int.ofNat k1) (AY x3 x2) q0 q1 (Int.ofNat k2) (Int.ofNat k3)))) none)))) none)) (Po pu n ih0 z0 n0 c0 n1 c1 (Int.ofNat k1) s0 z1 (Int.ofNat k1) false q0 q1 x0 x1)))))) none) none)) (Pm pu n n0 c0 n1 c1 q0 q1)) none) none)
def MR (pu:Af) (n w:Nat):Int→Nat→Nat→Nat→Nat→Sl→Int→Int→LV→LV→OV:=
 Nat.rec (motive:=fun _=>Int→Nat→Nat→Nat→Nat→Sl→Int→Int→LV→LV→OV) (fun _ _ _ _ _ _ _ _ _ _=>none) (fun _ ih0=>OB pu n ih0) w
def Xf (pu:Af) (n:Nat) (x0:Int) (s0 s1:Sl) (x1:Int):OV:=
 (bb (EQ (0+(Sl.n s1)) 8) (bb (Au Ah (Aq ((Sl.n s1)*1) (Sl.cs s1))) (bb (an (Nat.ble (Sl.n s0) (Sl.n s0)) (an (Nat.ble ((Sl.n s0)*1) 1099511627776) (an (Nat.ble (Sl.n s0) 1099511627776) true))) (bb (Au Ah (AF ([(.bool false)]:LV) (Sl.n s0))) (MR pu n n x1 (Sl.n s1) (2*(Sl.n s1)+bb false 1 0) (Sl.n s0) (2*(Sl.n s0)+bb true 1 0) s0 (Int.ofNat (Sl.n s0)) (0:Int) (Aq ((Sl.n s1)*1) (Sl.cs s1)) (AF ([(.bool false)]:LV) (Sl.n s0))) none) none) none) none)
def m32 (pu:Af) (n:Nat) (args:LV):OV:=
 (ll args none fun a0 args=>(ll args none fun a1 args=>(ll args none fun a2 args=>(ll args (oo (Bt a0) none fun l0=>(ll l0 none fun v0 l0=>(ll l0 none fun v1 l0=>(ll l0 (oo (Bi .i64 v0) none fun x0=>(oo (Bj 2 v1) none fun s0=>(oo (Bj 1 a1) none fun s1=>(oo (Bi .i64 a2) none fun x1=>(Xf pu n x0 s0 s1 x1))))) fun _ _=>none)))) fun _ _=>none))))
theorem xE (pu:Af) (n n0 c0 n1 c1:Nat) (q0:LV) (q1:LV) {v:Value} (hm:Pm pu n n0 c0 n1 c1 q0 q1=some v):BN tt (Bb tabs FM pu (inl pu)) 1 UY (fr 66 [(8,sc 1 0 1 n0 c0),(9,sc 2 0 1 n1 c1)]) (hT 3 [oC q0,oC q1]) (Fin tt 1 [.tmp 6,.tmp 7] v):=by
 unfold Pm at hm
 refine .then (.rK ?_)
 replace hm:=Ae hm;obtain⟨h0,hm⟩:=hm
 replace hm:=Ae hm;obtain⟨h1,hm⟩:=hm
 refine .ghs (fr 66 [(6,sc 1 0 1 n0 c0),(7,sc 2 0 1 n1 c1)]) (hT 3 [oC q0,oC q1]) (.k [1,2] [false] [.tmp 6 false,.tmp 7 false] [6,7] ⟨Bq h0,Bq h1,trivial⟩) ?_
 replace hm:=Ae hm;obtain⟨h2,hm⟩:=hm
 replace hm:=Ae hm;obtain⟨h3,hm⟩:=hm
 refine .ghs (Fr.puts (fr 66 [(6,sc 1 0 1 n0 c0),(7,sc 2 0 1 n1 c1)]) [(6,(Sl.v 1 (Sl.mk n0 0 (Aq (n0*1) (Am 0 q0))))),(7,(Sl.v 1 (Sl.mk n1 0 (Aq (n1*1) (Am 0 q1)))))]) (hT 3 [.dead,.dead]) (.freezeC 1 6 1 (an (Nat.ble (0+n0*1) (len q0)) (Au Ah (Aq (n0*1) (Am 0 q0)))) (F1:=(Fr.puts (fr 66 [(6,sc 1 0 1 n0 c0),(7,sc 2 0 1 n1 c1)]) [(6,(Sl.v 1 (Sl.mk n0 0 (Aq (n0*1) (Am 0 q0)))))])) (H1:=(hT 3 [.dead,oC q1])) (by kernel_rfl) (by kernel_rfl) h2 (.freezeC 1 7 1 (an (Nat.ble (0+n1*1) (len q1)) (Au Ah (Aq (n1*1) (Am 0 q1)))) (F1:=(Fr.puts (fr 66 [(6,sc 1 0 1 n0 c0),(7,sc 2 0 1 n1 c1)]) [(6,(Sl.v 1 (Sl.mk n0 0 (Aq (n0*1) (Am 0 q0))))),(7,(Sl.v 1 (Sl.mk n1 0 (Aq (n1*1) (Am 0 q1)))))])) (H1:=(hT 3 [.dead,.dead])) (by kernel_rfl) (by kernel_rfl) h3 (E9.id _ _))) ?_
 refine .ret ?_
 exact Cs (.tuple ⟨[(Sl.v 1 (Sl.mk n0 0 (Aq (n0*1) (Am 0 q0)))),(Sl.v 1 (Sl.mk n1 0 (Aq (n1*1) (Am 0 q1))))]⟩) hm
theorem r32 {call:A8} (pu:Af) (n:Nat) (hcall:call=Bb tabs FM pu (inl pu)) {args:LV} {v:Value} (hm:m32 pu n args=some v) (_:∀ x∈args,closed2 x=true):args.length≤66∧BN tt call 1 PO (Fr.made 66 args) (Ao tabs) (Fin tt 1 [.tmp 6,.tmp 7] v):=by
 subst hcall
 unfold m32 at hm
 replace hm:=Ad hm;obtain⟨a0,args_0,rfl,hm⟩:=hm
 replace hm:=Ad hm;obtain⟨a1,args_1,rfl,hm⟩:=hm
 replace hm:=Ad hm;obtain⟨a2,args_2,rfl,hm⟩:=hm
 replace hm:=AC hm;obtain⟨rfl,hm⟩:=hm
 replace hm:=BG hm;obtain⟨l0,rfl,hm⟩:=hm
 replace hm:=Ad hm;obtain⟨v0,l6931_0,rfl,hm⟩:=hm
 replace hm:=Ad hm;obtain⟨v1,l6931_1,rfl,hm⟩:=hm
 replace hm:=AC hm;obtain⟨rfl,hm⟩:=hm
 replace hm:=Ai hm;obtain⟨x0,rfl,hm⟩:=hm
 replace hm:=Al hm;obtain⟨s0,rfl,hm⟩:=hm
 replace hm:=Al hm;obtain⟨s1,rfl,hm⟩:=hm
 replace hm:=Ai hm;obtain⟨x1,rfl,hm⟩:=hm
 unfold Xf at hm
 refine⟨by simp,?_⟩
 refine .same (F':=(fr 66 [(0,(.agg ⟨[zI x0,(Sl.v 2 s0)]⟩)),(1,Sl.v 1 s1),(2,zI x1)])) (H':=Co) (by kernel_rfl) (by kernel_rfl) ?_
 refine .then (.rK (.ghs (fr 66 [(1,Sl.v 1 s1),(2,zI x1),(3,pt 1 0)]) (hT 2 [(oC [zI x0,(Sl.v 2 s0)])]) (.k0 [false] [.tmp 3 false] [1,2,3]) ?_))
 refine .then ?_
 replace hm:=Ae hm;obtain⟨h0,hm⟩:=hm
 refine .reg (eC 1 (bb (EQ (0+(Sl.n s1)) 8) (some ((sc 3 0 1 (Sl.n s1) (d2 (Sl.n s1))),(hT 4 [(oC [zI x0,(Sl.v 2 s0)]),(oC []),(oC (Aq ((Sl.n s1)*1) (Sl.cs s1)))]))) none) (kH h0) (eE)) ?_
 replace hm:=Ae hm;obtain⟨h1,hm⟩:=hm
 refine .ghs (fr 66 [(2,zI x1),(3,pt 1 0),(8,(sc 2 0 1 (Sl.n s1) (d2 (Sl.n s1))))]) (hT 3 [(oC [zI x0,(Sl.v 2 s0)]),(oC (Aq ((Sl.n s1)*1) (Sl.cs s1)))]) (.k [3] [false] [.tmp 3 false,.tmp 8 false] [2,3,8] ⟨Bq h1,trivial⟩) ?_
 refine .then ?_
 replace hm:=Ae hm;obtain⟨h2,hm⟩:=hm
 refine .reg (eC 3 (bb (an (Nat.ble (Sl.n s0) (Sl.n s0)) (an (Nat.ble ((Sl.n s0)*1) 1099511627776) (an (Nat.ble (Sl.n s0) 1099511627776) true))) (some ((sc 3 0 1 (Sl.n s0) (2*(Sl.n s0)+bb true 1 0)),(hT 4 [(oC [zI x0,(Sl.v 2 s0)]),(oC (Aq ((Sl.n s1)*1) (Sl.cs s1))),(oC (AF ([zB false]:LV) (Sl.n s0)))]))) none) (kH h2) (eE)) ?_
 replace hm:=Ae hm;obtain⟨h3,hm⟩:=hm
 refine .ghs (fr 66 [(2,zI x1),(3,pt 1 0),(8,(sc 2 0 1 (Sl.n s1) (d2 (Sl.n s1)))),(9,(sc 3 0 1 (Sl.n s0) (2*(Sl.n s0)+bb true 1 0)))]) (hT 4 [(oC [zI x0,(Sl.v 2 s0)]),(oC (Aq ((Sl.n s1)*1) (Sl.cs s1))),(oC (AF ([zB false]:LV) (Sl.n s0)))]) (.k [2,3] [false] [.tmp 3 false,.tmp 8 false,.tmp 9 false] [2,3,8,9] ⟨Bq h1,Bq h3,trivial⟩) ?_
 refine .join (v:=v) (fun y:Nat×Nat×Nat×Nat×LV×LV=>((fr 66 [(8,(sc 1 0 1 y.1 y.2.1)),(9,(sc 2 0 1 y.2.2.1 y.2.2.2.1))]),(hT 3 [(oC y.2.2.2.2.1),(oC y.2.2.2.2.2)]))) (fun y=>Pm pu n y.1 y.2.1 y.2.2.1 y.2.2.2.1 y.2.2.2.2.1 y.2.2.2.2.2) ?_ ?_
 ·rintro⟨n0,c0,n1,c1,q0,q1⟩ hm
  exact xE pu n n0 c0 n1 c1 q0 q1 hm
 ·refine .then (.rK (.ghs (fr 66 [(2,zI x1),(8,(sc 1 0 1 (Sl.n s1) (d2 (Sl.n s1)))),(9,(sc 2 0 1 (Sl.n s0) (2*(Sl.n s0)+bb true 1 0))),(19,(Sl.v 2 s0)),(20,(zI (Int.ofNat (Sl.n s0)))),(21,(zI (0:Int)))]) (hT 3 [(oC (Aq ((Sl.n s1)*1) (Sl.cs s1))),(oC (AF ([zB false]:LV) (Sl.n s0)))]) (.k [2,3] [false] [.tmp 8 false,.tmp 9 false] [2,8,9,19,20,21] ⟨Bq h1,Bq h3,trivial⟩) ?_))
  refine .block (.loopM (v:=v) (fun y:Int×Nat×Nat×Nat×Nat×Sl×Int×Int×LV×LV=>((fr 66 [(2,(zI y.1)),(8,(sc 1 0 1 y.2.1 y.2.2.1)),(9,(sc 2 0 1 y.2.2.2.1 y.2.2.2.2.1)),(19,(Sl.v 2 y.2.2.2.2.2.1)),(20,(zI y.2.2.2.2.2.2.1)),(21,(zI y.2.2.2.2.2.2.2.1))]),(hT 3 [(oC y.2.2.2.2.2.2.2.2.1),(oC y.2.2.2.2.2.2.2.2.2)]))) (fun w y=>MR pu n w y.1 y.2.1 y.2.2.1 y.2.2.2.1 y.2.2.2.2.1 y.2.2.2.2.2.1 y.2.2.2.2.2.2.1 y.2.2.2.2.2.2.2.1 y.2.2.2.2.2.2.2.2.1 y.2.2.2.2.2.2.2.2.2) n ⟨(x1,(Sl.n s1),(d2 (Sl.n s1)),(Sl.n s0),(2*(Sl.n s0)+bb true 1 0),s0,(Int.ofNat (Sl.n s0)),(0:Int),(Aq ((Sl.n s1)*1) (Sl.cs s1)),(AF ([zB false]:LV) (Sl.n s0))),hm,(.k [1,2] [false] [.tmp 8 false,.tmp 9 false] [2,8,9,19,20,21] ⟨Bq h1,Bq h3,trivial⟩)⟩ (fun _=>rfl) ?_)
  rintro w0 ⟨z0,n2,c2,n3,c3,s2,z1,z2,q2,q3⟩ hm
  replace hm:OB pu n (MR pu n w0) z0 n2 c2 n3 c3 s2 z1 z2 q2 q3=some v:=hm
  unfold OB at hm
  refine .then (.rK ?_)
  replace hm:=Ae hm;obtain⟨h4,hm⟩:=hm
  replace hm:=Ae hm;obtain⟨h5,hm⟩:=hm
  refine .ghs (fr 66 [(2,zI z0),(8,sc 1 0 1 n2 c2),(9,sc 2 0 1 n3 c3),(19,(Sl.v 2 s2)),(20,zI z1),(21,zI z2),(22,(zB (AY z2 z1)))]) (hT 3 [oC q2,oC q3]) (.k [1,2] [false] [.tmp 8 false,.tmp 9 false] [2,8,9,19,20,21,22] ⟨Bq h4,Bq h5,trivial⟩) ?_
  refine .then ?_
  replace hm:=Ag hm;rcases hm with⟨h6,hm⟩ | ⟨h6,hm⟩
  ·refine DL (AY z2 z1) h6 ?_
   refine .skip (.ghs (fr 66 [(2,zI z0),(8,sc 1 0 1 n2 c2),(9,sc 2 0 1 n3 c3),(19,(Sl.v 2 s2)),(20,zI z1),(21,zI z2)]) (hT 3 [oC q2,oC q3]) (.k [1,2] [false] [.tmp 8 false,.tmp 9 false] [2,8,9,19,20,21] ⟨Bq h4,Bq h5,trivial⟩) ?_)
   refine .join (v:=v) (fun y:Int×Nat×Nat×Nat×Nat×Sl×Int×Int×LV×LV=>((fr 66 [(2,(zI y.1)),(8,(sc 1 0 1 y.2.1 y.2.2.1)),(9,(sc 2 0 1 y.2.2.2.1 y.2.2.2.2.1)),(19,(Sl.v 2 y.2.2.2.2.2.1)),(20,(zI y.2.2.2.2.2.2.1)),(21,(zI y.2.2.2.2.2.2.2.1))]),(hT 3 [(oC y.2.2.2.2.2.2.2.2.1),(oC y.2.2.2.2.2.2.2.2.2)]))) (fun y=>Pn pu n (MR pu n w0) y.1 y.2.1 y.2.2.1 y.2.2.2.1 y.2.2.2.2.1 y.2.2.2.2.2.1 y.2.2.2.2.2.2.1 y.2.2.2.2.2.2.2.1 y.2.2.2.2.2.2.2.2.1 y.2.2.2.2.2.2.2.2.2) ?_ ?_
   ·rintro⟨z3,n4,c4,n5,c5,s3,z4,z5,q4,q5⟩ hm
    unfold Pn at hm
    refine .rK ?_
    replace hm:=Ae hm;obtain⟨h7,hm⟩:=hm
    replace hm:=Ae hm;obtain⟨h8,hm⟩:=hm
    exact⟨(z3,n4,c4,n5,c5,s3,z4,(Aj .i64 (Int.add z5 (1:Int))),q4,q5),hm,(.k [1,2] [false] [.tmp 8 false,.tmp 9 false] [2,8,9,19,20,21] ⟨Bq h7,Bq h8,trivial⟩)⟩
   ·refine .block (.then ?_)
    replace hm:=Ab hm;obtain⟨k1,h9,hm⟩:=hm
    obtain rfl:=AR h9
    replace hm:=Ae hm;obtain⟨h10,hm⟩:=hm
    replace hm:=Ae hm;obtain⟨h11,hm⟩:=hm
    replace hm:=I9 hm;obtain⟨x2,h12,hm⟩:=hm
    replace hm:=I9 hm;obtain⟨x3,h13,hm⟩:=hm
    refine .reg (eC 1 (keep (hT 3 [oC q2,oC q3]) (bb (an (Nat.blt k1 (Sl.n s2)) true) (some (Cv (k1*2) (Sl.cs s2))) none)) (AX h10) (eD (keep (hT 3 [oC q2,oC q3]) (bb (Nat.ble ((k1*2)+2) (len (Sl.cs s2))) (some (.agg ⟨Aq 2 (Am (k1*2) (Sl.cs s2))⟩)) none)) (Pd h11 (Ca h12 (Ca h13 rfl))) (eE))) ?_
    refine .ghs (fr 66 [(2,zI z0),(8,sc 1 0 1 n2 c2),(9,sc 2 0 1 n3 c3),(10,(zI (Int.ofNat k1))),(11,(pt 3 0)),(19,(Sl.v 2 s2)),(20,zI z1),(21,(zI (Int.ofNat k1)))]) (hT 4 [oC q2,oC q3,(oC [zI x2,zI x3])]) (.k [1,2] [false] [.tmp 8 false,.tmp 9 false,.tmp 11 false] [2,8,9,10,11,19,20,21] ⟨Bq h4,Bq h5,trivial⟩) ?_
    refine .join (v:=v) (fun y:Int×Nat×Nat×Nat×Nat×Int×Sl×Int×Int×Bool×LV×LV×Int×Int=>((fr 66 [(2,(zI y.1)),(8,(sc 1 0 1 y.2.1 y.2.2.1)),(9,(sc 2 0 1 y.2.2.2.1 y.2.2.2.2.1)),(10,(zI y.2.2.2.2.2.1)),(11,(pt 3 0)),(19,(Sl.v 2 y.2.2.2.2.2.2.1)),(20,(zI y.2.2.2.2.2.2.2.1)),(21,(zI y.2.2.2.2.2.2.2.2.1)),(41,(zB y.2.2.2.2.2.2.2.2.2.1))]),(hT 4 [(oC y.2.2.2.2.2.2.2.2.2.2.1),(oC y.2.2.2.2.2.2.2.2.2.2.2.1),(oC [(zI y.2.2.2.2.2.2.2.2.2.2.2.2.1),(zI y.2.2.2.2.2.2.2.2.2.2.2.2.2)])]))) (fun y=>Po pu n (MR pu n w0) y.1 y.2.1 y.2.2.1 y.2.2.2.1 y.2.2.2.2.1 y.2.2.2.2.2.1 y.2.2.2.2.2.2.1 y.2.2.2.2.2.2.2.1 y.2.2.2.2.2.2.2.2.1 y.2.2.2.2.2.2.2.2.2.1 y.2.2.2.2.2.2.2.2.2.2.1 y.2.2.2.2.2.2.2.2.2.2.2.1 y.2.2.2.2.2.2.2.2.2.2.2.2.1 y.2.2.2.2.2.2.2.2.2.2.2.2.2) ?_ ?_
    ·rintro⟨z6,n6,c6,n7,c8,z7,s4,z8,z9,b0,q6,q7,z10,z11⟩ hm
     unfold Po at hm
     replace hm:=Ag hm;rcases hm with⟨h14,hm⟩ | ⟨h14,hm⟩
     ·refine .ifT b0 (by kernel_rfl) h14 ?_
      refine .then ?_
      replace hm:=Ab hm;obtain⟨k2,h15,hm⟩:=hm
      obtain rfl:=AR h15
      replace hm:=Ae hm;obtain⟨h16,hm⟩:=hm
      replace hm:=I9 hm;obtain⟨x4,h17,hm⟩:=hm
      replace hm:=Ab hm;obtain⟨k3,h18,hm⟩:=hm
      obtain rfl:=AR h18
      replace hm:=Ae hm;obtain⟨h19,hm⟩:=hm
      replace hm:=I9 hm;obtain⟨x5,h20,hm⟩:=hm
      replace hm:=Ae hm;obtain⟨h21,hm⟩:=hm
      replace hm:=Ae hm;obtain⟨h22,hm⟩:=hm
      replace hm:=Ae hm;obtain⟨h23,hm⟩:=hm
      replace hm:=Ae hm;obtain⟨h24,hm⟩:=hm
      refine .reg (eN 15 (Fr.puts (fr 66 [(2,zI z6),(8,sc 1 0 1 n6 c6),(9,sc 2 0 1 n7 c8),(10,zI z7),(11,(pt 3 0)),(19,(Sl.v 2 s4)),(20,zI z8),(21,zI z9),(41,zB b0)]) [(42,sc 1 0 1 n6 c6),(43,(pt 3 0)),(44,(zI (Int.ofNat k3))),(45,sc 1 0 1 n6 c6),(46,(pt 3 1)),(47,(zI (Int.ofNat k2))),(48,sc 1 0 1 n6 c6),(49,(pt 3 1)),(50,(zI (Int.ofNat k2))),(51,(.pointer (some ⟨1,(0+k2*1),none⟩))),(52,zI x4),(53,sc 1 0 1 n6 c6),(54,(pt 3 0)),(55,(zI (Int.ofNat k3))),(56,(.pointer (some ⟨1,(0+k3*1),none⟩)))]) (hT 4 [oC q6,oC q7,(oC [(zI (Int.ofNat k3)),(zI (Int.ofNat k2))])]) (eC 9 (keep (hT 4 [oC q6,oC q7,(oC [(zI (Int.ofNat k3)),(zI (Int.ofNat k2))])]) (bb (an (Nat.blt k2 n6) true) (some (.pointer (some ⟨1,(0+k2*1),none⟩))) none)) (AX h16) (eD (keep (hT 4 [oC q6,oC q7,(oC [(zI (Int.ofNat k3)),(zI (Int.ofNat k2))])]) (AL q6 (0+k2*1))) (AZ h17) (eC 3 (keep (hT 4 [oC q6,oC q7,(oC [(zI (Int.ofNat k3)),(zI (Int.ofNat k2))])]) (bb (an (Nat.blt k3 n6) true) (some (.pointer (some ⟨1,(0+k3*1),none⟩))) none)) (AX h19) (by kernel_rfl)))) (eD (keep (hT 4 [oC q6,oC q7,(oC [(zI (Int.ofNat k3)),(zI (Int.ofNat k2))])]) (AL q6 (0+k3*1))) (AZ h20) (eD (keep (hT 4 [oC q6,oC q7,(oC [(zI (Int.ofNat k3)),(zI (Int.ofNat k2))])]) (bb (an (Nat.blt k3 n6) true) (some (.pointer (some ⟨1,(0+k3*1),none⟩))) none)) (AX h21) (eD (done (bb (an (Nat.ble ((0+k3*1)+1) (len q6)) true) (some (hT 4 [(oC (BM ([zI x4]:LV) (0+k3*1) q6)),oC q7,(oC [(zI (Int.ofNat k3)),(zI (Int.ofNat k2))])])) none) undef) (Js h22) (eD (keep (hT 4 [(oC (BM ([zI x4]:LV) (0+k3*1) q6)),oC q7,(oC [(zI (Int.ofNat k3)),(zI (Int.ofNat k2))])]) (bb (an (Nat.blt k2 n6) true) (some (.pointer (some ⟨1,(0+k2*1),none⟩))) none)) (AX h23) (eD (done (bb (an (Nat.ble ((0+k2*1)+1) (len (BM ([zI x4]:LV) (0+k3*1) q6))) true) (some (hT 4 [(oC (BM ([zI x5]:LV) (0+k2*1) (BM ([zI x4]:LV) (0+k3*1) q6))),oC q7,(oC [(zI (Int.ofNat k3)),(zI (Int.ofNat k2))])])) none) undef) (Js h24) (eE))))))) ?_
      replace hm:=Ae hm;obtain⟨h25,hm⟩:=hm
      replace hm:=Ae hm;obtain⟨h26,hm⟩:=hm
      refine .ghs (fr 66 [(2,zI z6),(8,sc 1 0 1 n6 c6),(9,sc 2 0 1 n7 c8),(10,zI z7),(19,(Sl.v 2 s4)),(20,zI z8),(21,zI z9)]) (hT 3 [(oC (BM ([zI x5]:LV) (0+k2*1) (BM ([zI x4]:LV) (0+k3*1) q6))),oC q7]) (.k [1,2] [false] [.tmp 8 false,.tmp 9 false] [2,8,9,10,19,20,21] ⟨Bq h25,Bq h26,trivial⟩) ?_
      replace hm:=Ab hm;obtain⟨k4,h27,hm⟩:=hm
      obtain rfl:=AR h27
      replace hm:=Ae hm;obtain⟨h28,hm⟩:=hm
      replace hm:=Ae hm;obtain⟨h29,hm⟩:=hm
      refine .reg (eC 2 (keep (hT 3 [(oC (BM ([zI x5]:LV) (0+k2*1) (BM ([zI x4]:LV) (0+k3*1) q6))),oC q7]) (bb (an (Nat.blt k4 n7) true) (some (.pointer (some ⟨2,(0+k4*1),none⟩))) none)) (AX h28) (eD (done (bb (an (Nat.ble ((0+k4*1)+1) (len q7)) true) (some (hT 3 [(oC (BM ([zI x5]:LV) (0+k2*1) (BM ([zI x4]:LV) (0+k3*1) q6))),(oC (BM ([zB true]:LV) (0+k4*1) q7))])) none) undef) (Js h29) (eE))) ?_
      replace hm:=Ae hm;obtain⟨h30,hm⟩:=hm
      exact⟨(z6,n6,c6,n7,c8,s4,z8,z9,(BM ([zI x5]:LV) (0+k2*1) (BM ([zI x4]:LV) (0+k3*1) q6)),(BM ([zB true]:LV) (0+k4*1) q7)),hm,(.k [1,2] [false] [.tmp 8 false,.tmp 9 false] [2,8,9,19,20,21] ⟨Bq h25,Bq h30,trivial⟩)⟩
     ·refine .ifF b0 (by kernel_rfl) h14 ?_
      refine .skip ?_
      replace hm:=Ae hm;obtain⟨h31,hm⟩:=hm
      replace hm:=Ae hm;obtain⟨h32,hm⟩:=hm
      exact⟨(z6,n6,c6,n7,c8,s4,z8,z9,q6,q7),hm,(.k [1,2] [false] [.tmp 8 false,.tmp 9 false] [2,8,9,19,20,21] ⟨Bq h31,Bq h32,trivial⟩)⟩
    ·replace hm:=Ag hm;rcases hm with⟨h33,hm⟩ | ⟨h33,hm⟩
     ·replace hm:=Ab hm;obtain⟨k5,h34,hm⟩:=hm
      obtain rfl:=AR h34
      replace hm:=Ae hm;obtain⟨h35,hm⟩:=hm
      replace hm:=I9 hm;obtain⟨x6,h36,hm⟩:=hm
      replace hm:=Ab hm;obtain⟨k6,h37,hm⟩:=hm
      obtain rfl:=AR h37
      replace hm:=Ae hm;obtain⟨h38,hm⟩:=hm
      replace hm:=I9 hm;obtain⟨x7,h39,hm⟩:=hm
      refine .reg (eC 2 (some ((zB (nt (Bd (Int.ofNat k1) z0))),(hT 4 [oC q2,oC q3,(oC [(zI (Int.ofNat k5)),(zI (Int.ofNat k6))])]))) (show _=some ((zB true),_) from (by rw[show (nt (Bd (Int.ofNat k1) z0))=true from h33])) (eC 4 (keep (hT 4 [oC q2,oC q3,(oC [(zI (Int.ofNat k5)),(zI (Int.ofNat k6))])]) (bb (an (Nat.blt k5 n2) true) (some (.pointer (some ⟨1,(0+k5*1),none⟩))) none)) (AX h35) (eD (keep (hT 4 [oC q2,oC q3,(oC [(zI (Int.ofNat k5)),(zI (Int.ofNat k6))])]) (AL q2 (0+k5*1))) (AZ h36) (eC 3 (keep (hT 4 [oC q2,oC q3,(oC [(zI (Int.ofNat k5)),(zI (Int.ofNat k6))])]) (bb (an (Nat.blt k6 n2) true) (some (.pointer (some ⟨1,(0+k6*1),none⟩))) none)) (AX h38) (eD (keep (hT 4 [oC q2,oC q3,(oC [(zI (Int.ofNat k5)),(zI (Int.ofNat k6))])]) (AL q2 (0+k6*1))) (AZ h39) (eE)))))) ?_
      exact⟨(z0,n2,c2,n3,c3,(Int.ofNat k1),s2,z1,(Int.ofNat k1),(AY x7 x6),q2,q3,(Int.ofNat k5),(Int.ofNat k6)),hm,(.k [1,2] [false] [.tmp 8 false,.tmp 9 false,.tmp 11 false] [2,8,9,10,11,19,20,21,41] ⟨Bq h4,Bq h5,trivial⟩)⟩
     ·refine .reg (eC 2 (some ((zB (nt (Bd (Int.ofNat k1) z0))),(hT 4 [oC q2,oC q3,(oC [zI x2,zI x3])]))) (show _=some ((zB false),_) from (by rw[show (nt (Bd (Int.ofNat k1) z0))=false from h33])) (eE)) ?_
      exact⟨(z0,n2,c2,n3,c3,(Int.ofNat k1),s2,z1,(Int.ofNat k1),false,q2,q3,x2,x3),hm,(.k [1,2] [false] [.tmp 8 false,.tmp 9 false,.tmp 11 false] [2,8,9,10,11,19,20,21,41] ⟨Bq h4,Bq h5,trivial⟩)⟩
  ·refine DT (AY z2 z1) h6 ?_
   refine .exit ?_
   exact⟨(n2,c2,n3,c3,q2,q3),hm,(.k [1,2] [false] [.tmp 8 false,.tmp 9 false] [8,9] ⟨Bq h4,Bq h5,trivial⟩)⟩
def T9 (pu:Af) (n:Nat):OV:=
 (some (.bool true))
def K6 (pu:Af) (n:Nat) (ih0:Sl→Int→OV) (s0:Sl) (z0:Int):OV:=
 (bb (AY (0:Int) z0) (oo (EA z0) none fun k1=>(bb (an (Nat.blt k1 (Sl.n s0)) true) (oo (AL (Sl.cs s0) (k1*1)) none fun v0=>(oo (Bi .i64 v0) none fun x0=>(oo (EA (Aj .i64 (Int.sub (Int.ofNat k1) (1:Int)))) none fun k2=>(bb (an (Nat.blt k2 (Sl.n s0)) true) (oo (AL (Sl.cs s0) (k2*1)) none fun v1=>(oo (Bi .i64 v1) none fun x1=>(oo (pu 74 [.int .i64 x0,.int .i64 x1]) none fun v2=>(oo (Bf v2) none fun b0=>(bb b0 (some (.bool false)) (ih0 s0 (Aj .i64 (Int.sub (Int.ofNat k1) (1:Int))))))))) none)))) none)) (T9 pu n))
def OC (pu:Af) (n w:Nat):Sl→Int→OV:=
 Nat.rec (motive:=fun _=>Sl→Int→OV) (fun _ _=>none) (fun _ ih0=>K6 pu n ih0) w
def Xg (pu:Af) (n:Nat) (s0:Sl):OV:=
 (OC pu n n s0 (Aj .i64 (Int.sub (Int.ofNat (Sl.n s0)) (1:Int))))
def m33 (pu:Af) (n:Nat) (args:LV):OV:=
 (ll args none fun a0 args=>(ll args (oo (Bj 1 a0) none fun s0=>(Xg pu n s0)) fun _ _=>none))
theorem xG (pu:Af) (n:Nat) {v:Value} (hm:T9 pu n=some v):BN tt (Bb tabs FM pu (inl pu)) 1 UZ (fr 21 []) Co (Fin tt 1 [.tmp 2] v):=by
 unfold T9 at hm
 refine .then (.rK (.ghs (fr 21 [(2,zB true)]) Co (.k0 [false] [] [2]) ?_))
 refine .ret ?_
 exact Cs (zB true) hm
theorem r33 {call:A8} (pu:Af) (n:Nat) (hcall:call=Bb tabs FM pu (inl pu)) {args:LV} {v:Value} (hm:m33 pu n args=some v) (_:∀ x∈args,closed2 x=true):args.length≤21∧BN tt call 1 PP (Fr.made 21 args) (Ao tabs) (Fin tt 1 [.tmp 2] v):=by
 subst hcall
 unfold m33 at hm
 replace hm:=Ad hm;obtain⟨a0,args_0,rfl,hm⟩:=hm
 replace hm:=AC hm;obtain⟨rfl,hm⟩:=hm
 replace hm:=Al hm;obtain⟨s0,rfl,hm⟩:=hm
 unfold Xg at hm
 refine⟨by simp,?_⟩
 refine .same (F':=(fr 21 [(0,Sl.v 1 s0)])) (H':=Co) (by kernel_rfl) (by kernel_rfl) ?_
 refine .then (.rK (.ghs (fr 21 [(0,Sl.v 1 s0)]) Co (.k0 [false] [] [0]) ?_))
 refine .join (v:=v) (fun y:Unit=>((fr 21 []),Co)) (fun y=>T9 pu n) ?_ ?_
 ·rintro _ hm
  exact xG pu n hm
 ·refine .then (.rK (.ghs (fr 21 [(0,Sl.v 1 s0),(3,(zI (Aj .i64 (Int.sub (Int.ofNat (Sl.n s0)) (1:Int)))))]) Co (.k0 [false] [] [0,3]) ?_))
  refine .block (.loopM (v:=v) (fun y:Sl×Int=>((fr 21 [(0,(Sl.v 1 y.1)),(3,(zI y.2))]),Co)) (fun w y=>OC pu n w y.1 y.2) n ⟨(s0,(Aj .i64 (Int.sub (Int.ofNat (Sl.n s0)) (1:Int)))),hm,(.k0 [false] [] [0,3])⟩ (fun _=>rfl) ?_)
  rintro w0 ⟨s1,z0⟩ hm
  replace hm:K6 pu n (OC pu n w0) s1 z0=some v:=hm
  unfold K6 at hm
  refine .then (.then (.rK (.ghs (fr 21 [(0,Sl.v 1 s1),(3,zI z0),(8,(zB (AY (0:Int) z0)))]) Co (.k0 [false] [] [0,3,8]) ?_)))
  replace hm:=Ag hm;rcases hm with⟨h0,hm⟩ | ⟨h0,hm⟩
  ·refine DL (AY (0:Int) z0) h0 ?_
   refine .skip (.ghs (fr 21 [(0,Sl.v 1 s1),(3,zI z0)]) Co (.k0 [false] [] [0,3]) ?_)
   refine .then (.block (.then ?_))
   replace hm:=Ab hm;obtain⟨k1,h1,hm⟩:=hm
   obtain rfl:=AR h1
   replace hm:=Ae hm;obtain⟨h2,hm⟩:=hm
   replace hm:=I9 hm;obtain⟨x0,h3,hm⟩:=hm
   replace hm:=Ab hm;obtain⟨k2,h4,hm⟩:=hm
   replace hm:=Ae hm;obtain⟨h5,hm⟩:=hm
   replace hm:=I9 hm;obtain⟨x1,h6,hm⟩:=hm
   replace hm:=Sm hm;obtain⟨b0,h7,hm⟩:=hm
   refine .reg (eN 7 (Fr.puts (fr 21 [(0,Sl.v 1 s1),(3,(zI (Int.ofNat k1)))]) [(11,Sl.v 1 s1),(12,(zI (Int.ofNat k1))),(13,(Cv (k1*1) (Sl.cs s1))),(14,zI x0),(15,Sl.v 1 s1),(16,(zI (Int.ofNat k1))),(17,(zI (Int.ofNat k2)))]) Co (eC 2 (keep Co (bb (an (Nat.blt k1 (Sl.n s1)) true) (some (Cv (k1*1) (Sl.cs s1))) none)) (AX h2) (eD (keep Co (AL (Sl.cs s1) (k1*1))) (AZ h3) (eC 2 (some ((zI (Aj .i64 (Int.sub (Int.ofNat k1) (1:Int)))),Co)) (show _=some ((zI (Int.ofNat k2)),_) from (by rw[AR h4])) (by kernel_rfl)))) (eD (keep Co (bb (an (Nat.blt k2 (Sl.n s1)) true) (some (Cv (k2*1) (Sl.cs s1))) none)) (AX h5) (eD (keep Co (AL (Sl.cs s1) (k2*1))) (AZ h6) (eD ((oo (pu 74 [zI x0,zI x1]) none fun v=>some (v,Co))) (AB h7) (eE))))) ?_
   refine .ghs (fr 21 [(0,Sl.v 1 s1),(3,(zI (Int.ofNat k1))),(20,zB b0)]) Co (.k0 [false] [] [0,3,20]) ?_
   replace hm:=Ag hm;rcases hm with⟨h8,hm⟩ | ⟨h8,hm⟩
   ·refine .ifT b0 (by kernel_rfl) h8 ?_
    refine .then (.rK (.ghs (fr 21 [(2,zB false)]) Co (.k0 [false] [] [2]) ?_))
    refine .ret ?_
    exact Cs (zB false) hm
   ·refine .ifF b0 (by kernel_rfl) h8 ?_
    refine .skip (.ghs (fr 21 [(0,Sl.v 1 s1),(3,(zI (Int.ofNat k1)))]) Co (.k0 [false] [] [0,3]) ?_)
    refine .rK ?_
    exact⟨(s1,(Aj .i64 (Int.sub (Int.ofNat k1) (1:Int)))),hm,(.k0 [false] [] [0,3])⟩
  ·refine DT (AY (0:Int) z0) h0 ?_
   refine .exit ?_
   exact⟨(),hm,(.k0 [false] [] [])⟩

def Xh (pu:Af) (n:Nat) (s0:Sl) (x0:Int):OV:=
 (oo (pu 77 [Sl.v 1 s0,.int .i64 x0]) none fun v0=>(oo (Bi .i64 v0) none fun x1=>(some (.bool (nt (AY x1 (0:Int)))))))
def m38 (pu:Af) (n:Nat) (args:LV):OV:=
 (ll args none fun a0 args=>(ll args none fun a1 args=>(ll args (oo (Bj 1 a0) none fun s0=>(oo (Bi .i64 a1) none fun x0=>(Xh pu n s0 x0))) fun _ _=>none)))
theorem r38 {call:A8} (pu:Af) (n:Nat) (hcall:call=Bb tabs FM pu (inl pu)) {args:LV} {v:Value} (hm:m38 pu n args=some v) (_:∀ x∈args,closed2 x=true):args.length≤9∧BN tt call 1 SK (Fr.made 9 args) (Ao tabs) (Fin tt 1 [.tmp 4] v):=by
 subst hcall
 unfold m38 at hm
 replace hm:=Ad hm;obtain⟨a0,args_0,rfl,hm⟩:=hm
 replace hm:=Ad hm;obtain⟨a1,args_1,rfl,hm⟩:=hm
 replace hm:=AC hm;obtain⟨rfl,hm⟩:=hm
 replace hm:=Al hm;obtain⟨s0,rfl,hm⟩:=hm
 replace hm:=Ai hm;obtain⟨x0,rfl,hm⟩:=hm
 unfold Xh at hm
 refine⟨by simp,?_⟩
 refine .same (F':=(fr 9 [(0,Sl.v 1 s0),(1,zI x0)])) (H':=Co) (by kernel_rfl) (by kernel_rfl) ?_
 refine .then (.rK (.ghs (fr 9 [(0,Sl.v 1 s0),(1,zI x0)]) Co (.k0 [false] [] [0,1]) ?_))
 refine .then ?_
 replace hm:=I9 hm;obtain⟨x1,h0,hm⟩:=hm
 refine .reg (eC 2 ((oo (pu 77 [Sl.v 1 s0,zI x0]) none fun v=>some (v,Co))) (AB h0) (eE)) ?_
 refine .ghs (fr 9 [(4,(zB (nt (AY x1 (0:Int)))))]) Co (.k0 [false] [] [4]) ?_
 refine .ret ?_
 exact Cs (zB (nt (AY x1 (0:Int)))) hm

def XJ (pu:Af) (n:Nat) (x0:Int) (s0:Sl):OV:=
 (oo (pu 64 [(.agg ⟨[.int .i64 x0,(Sl.v 2 s0)]⟩)]) none fun v0=>(oo (CQ v0) none fun l0=>(ll l0 none fun v1 l0=>(ll l0 none fun v2 l0=>(ll l0 (oo (Bt v1) none fun q0=>(bb (an (Nat.beq (len q0) 14) (Au Ah q0)) (oo (Bi .i64 v2) none fun x1=>(bb (Nat.beq (len q0) 14) (bb (an (Nat.ble (0+len q0) (len BB)) (Au D6 q0)) (bb (Au Ah (BM q0 0 BB)) (bb (nt (Bd x1 (0:Int))) (some (.tuple ⟨[(.bool false),.int .i64 x1]⟩)) (bb (Nat.ble (0+14) (len (BM q0 0 BB))) (oo (pu 61 [(.agg ⟨(Aq 14 (Am 0 (BM q0 0 BB)))⟩),.int .i64 x0]) none fun v3=>(oo (Bi .i64 v3) none fun x2=>(bb (Au closed2 [(.agg ⟨(Aq 14 (Am 0 (BM q0 0 BB)))⟩),.int .i64 x0]) (some (.tuple ⟨[(.bool (AY x2 (0:Int))),(.int .i64 (0:Int))]⟩)) none))) none)) none) none) none)) none)) fun _ _=>none)))))
def m46 (pu:Af) (n:Nat) (args:LV):OV:=
 (ll args none fun a0 args=>(ll args (oo (Bt a0) none fun l0=>(ll l0 none fun v0 l0=>(ll l0 none fun v1 l0=>(ll l0 (oo (Bi .i64 v0) none fun x0=>(oo (Bj 2 v1) none fun s0=>(XJ pu n x0 s0))) fun _ _=>none)))) fun _ _=>none))
theorem r46 {call:A8} (pu:Af) (n:Nat) (hcall:call=Bb tabs FM pu (inl pu)) {args:LV} {v:Value} (hm:m46 pu n args=some v) (_:∀ x∈args,closed2 x=true):args.length≤19∧BN tt call 1 PQ (Fr.made 19 args) (Ao tabs) (Fin tt 1 [.tmp 2,.tmp 3] v):=by
 subst hcall
 unfold m46 at hm
 replace hm:=Ad hm;obtain⟨a0,args_0,rfl,hm⟩:=hm
 replace hm:=AC hm;obtain⟨rfl,hm⟩:=hm
 replace hm:=BG hm;obtain⟨l0,rfl,hm⟩:=hm
 replace hm:=Ad hm;obtain⟨v0,l8755_0,rfl,hm⟩:=hm
 replace hm:=Ad hm;obtain⟨v1,l8755_1,rfl,hm⟩:=hm
 replace hm:=AC hm;obtain⟨rfl,hm⟩:=hm
 replace hm:=Ai hm;obtain⟨x0,rfl,hm⟩:=hm
 replace hm:=Al hm;obtain⟨s0,rfl,hm⟩:=hm
 unfold XJ at hm
 refine⟨by simp,?_⟩
 refine .same (F':=(fr 19 [(0,(.agg ⟨[zI x0,(Sl.v 2 s0)]⟩))])) (H':=Co) (by kernel_rfl) (by kernel_rfl) ?_
 refine .then (.rK (.ghs (fr 19 [(1,pt 1 0)]) (hT 2 [(oC [zI x0,(Sl.v 2 s0)])]) (.k0 [false] [.tmp 1 false] [1]) ?_))
 refine .then ?_
 replace hm:=Ab hm;obtain⟨v2,h0,hm⟩:=hm
 replace hm:=Ch hm;obtain⟨l2,rfl,hm⟩:=hm
 replace hm:=Ad hm;obtain⟨v3,l8778_0,rfl,hm⟩:=hm
 replace hm:=Ad hm;obtain⟨v4,l8778_1,rfl,hm⟩:=hm
 replace hm:=AC hm;obtain⟨rfl,hm⟩:=hm
 replace hm:=BG hm;obtain⟨q0,rfl,hm⟩:=hm
 replace hm:=Ae hm;obtain⟨h1,hm⟩:=hm
 replace hm:=Ai hm;obtain⟨x1,rfl,hm⟩:=hm
 replace hm:=Ae hm;obtain⟨h2,hm⟩:=hm
 replace hm:=Ae hm;obtain⟨h3,hm⟩:=hm
 refine .reg (eC 1 ((oo (pu 64 [(.agg ⟨[zI x0,(Sl.v 2 s0)]⟩)]) none fun v=>some (v,(hT 2 [(oC [zI x0,(Sl.v 2 s0)])])))) (AB h0) (eC 4 (done (bb (Nat.beq (len q0) 14) (bb (an (Nat.ble (0+len q0) (len BB)) (Au D6 q0)) (some (hT 3 [(oC [zI x0,(Sl.v 2 s0)]),(oC (BM q0 0 BB))])) none) none) undef) (bH h2 h3) (eE))) ?_
 replace hm:=Ae hm;obtain⟨h4,hm⟩:=hm
 refine .ghs (fr 19 [(1,pt 1 0),(4,(pt 2 0)),(5,zI x1)]) (hT 3 [(oC [zI x0,(Sl.v 2 s0)]),(oC (BM q0 0 BB))]) (.k [2] [false] [.tmp 1 false,.tmp 4 false] [1,4,5] ⟨Bq h4,trivial⟩) ?_
 refine .then (.then (.rK (.ghs (fr 19 [(1,pt 1 0),(4,(pt 2 0)),(5,zI x1),(12,(zB (nt (Bd x1 (0:Int)))))]) (hT 3 [(oC [zI x0,(Sl.v 2 s0)]),(oC (BM q0 0 BB))]) (.k [2] [false] [.tmp 1 false,.tmp 4 false] [1,4,5,12] ⟨Bq h4,trivial⟩) ?_)))
 replace hm:=Ag hm;rcases hm with⟨h5,hm⟩ | ⟨h5,hm⟩
 ·refine DL (nt (Bd x1 (0:Int))) h5 ?_
  refine .then (.rK (.ghs (fr 19 [(2,zB false),(3,zI x1)]) Co (.k0 [false] [] [2,3]) ?_))
  refine .ret ?_
  exact Cs (.tuple ⟨[zB false,zI x1]⟩) hm
 ·refine DT (nt (Bd x1 (0:Int))) h5 ?_
  refine .skip (.ghs (fr 19 [(1,pt 1 0),(4,(pt 2 0))]) (hT 3 [(oC [zI x0,(Sl.v 2 s0)]),(oC (BM q0 0 BB))]) (.k [2] [false] [.tmp 1 false,.tmp 4 false] [1,4] ⟨Bq h4,trivial⟩) ?_)
  refine .then ?_
  replace hm:=Ae hm;obtain⟨h6,hm⟩:=hm
  replace hm:=I9 hm;obtain⟨x2,h7,hm⟩:=hm
  replace hm:=Ae hm;obtain⟨h8,hm⟩:=hm
  refine .reg (eD (keep (hT 3 [(oC [zI x0,(Sl.v 2 s0)]),(oC (BM q0 0 BB))]) (bb (Nat.ble (0+14) (len (BM q0 0 BB))) (some (.agg ⟨(Aq 14 (Am 0 (BM q0 0 BB)))⟩)) none)) (AX h6) (eC 2 (bb (Au closed2 [(.agg ⟨(Aq 14 (Am 0 (BM q0 0 BB)))⟩),zI x0]) (oo (pu 61 [(.agg ⟨(Aq 14 (Am 0 (BM q0 0 BB)))⟩),zI x0]) none fun v=>some (v,(hT 3 [(oC [zI x0,(Sl.v 2 s0)]),(oC (BM q0 0 BB))]))) (oo (CG (RG (hT 3 [(oC [zI x0,(Sl.v 2 s0)]),(oC (BM q0 0 BB))])) [(.agg ⟨(Aq 14 (Am 0 (BM q0 0 BB)))⟩),zI x0]) none fun l1=>oo (pu 61 l1) none fun v=>bb (RH v) (some (v,(hT 3 [(oC [zI x0,(Sl.v 2 s0)]),(oC (BM q0 0 BB))]))) none)) (SL h8 h7) (eE))) ?_
  refine .ghs (fr 19 [(2,(zB (AY x2 (0:Int)))),(3,(zI (0:Int)))]) Co (.k0 [false] [] [2,3]) ?_
  refine .ret ?_
  exact Cs (.tuple ⟨[(zB (AY x2 (0:Int))),(zI (0:Int))]⟩) hm
end
end Go.TbWM
