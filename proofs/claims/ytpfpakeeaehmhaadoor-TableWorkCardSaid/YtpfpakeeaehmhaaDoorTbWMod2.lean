/- Made from wip. -/
import Derived.Test.YtpfpakeeaehmhaaDoorTbWMod0x

set_option maxRecDepth 100000
set_option maxHeartbeats 20000000
set_option linter.unusedVariables false
namespace Go.TbWM
open Go.Sp Go.TbW
noncomputable section
def QN (pu:Af) (n n0 c0:Nat) (q0:LV):OV:=
 (bb (Au Ah q0) (bb (an (Nat.ble (0+n0*1) (len q0)) (Au Ah (Aq (n0*1) (Am 0 q0)))) (some (.tuple ⟨[(Sl.v 1 (Sl.mk n0 0 (Aq (n0*1) (Am 0 q0)))),(.int .i64 (0:Int))]⟩)) none) none)
def Pi (pu:Af) (n:Nat) (ih0:Nat→Nat→Sl→Int→Int→LV→LV→OV) (n0 c0:Nat) (s0:Sl) (z0 z1:Int) (q0:LV) (q1:LV) (q2:LV):OV:=
 (bb (Nat.ble (0+14) (len q2)) (bb (Nat.beq (len (Aq 14 (Am 0 q2))) 14) (bb (an (Nat.ble (0+len (Aq 14 (Am 0 q2))) (len q1)) (Au D6 (Aq 14 (Am 0 q2)))) (bb (Au Ah q0) (bb (Au Ah (BM (Aq 14 (Am 0 q2)) 0 q1)) (ih0 n0 c0 s0 z0 (Aj .i64 (Int.add z1 (1:Int))) q0 (BM (Aq 14 (Am 0 q2)) 0 q1)) none) none) none) none) none)
def Ou (pu:Af) (n:Nat) (ih0:Nat→Nat→Sl→Int→Int→LV→LV→OV) (n0 c0:Nat) (s0:Sl) (z0 z1:Int) (q0:LV) (q1:LV):OV:=
 (bb (Au Ah q0) (bb (Au Ah q1) (bb (AY z1 z0) (oo (EA z1) none fun k1=>(bb (an (Nat.blt k1 (Sl.n s0)) true) (bb (Nat.ble ((k1*2)+2) (len (Sl.cs s0))) (oo (AL (Sl.cs s0) (k1*2)) none fun v0=>(oo (Bi .i64 v0) none fun x0=>(oo (AL (Sl.cs s0) ((k1*2)+1)) none fun v1=>(oo (Bi .i64 v1) none fun x1=>(bb (Nat.ble (0+14) (len q1)) (oo (pu 57 [(.agg ⟨(Aq 14 (Am 0 q1))⟩),(.agg ⟨[.int .i64 x0,.int .i64 x1]⟩)]) none fun v2=>(oo (Bt v2) none fun q2=>(bb (an (Nat.beq (len q2) 14) (Au Ah q2)) (bb (Au closed2 [(.agg ⟨(Aq 14 (Am 0 q1))⟩),(.agg ⟨[.int .i64 x0,.int .i64 x1]⟩)]) (bb (Nat.beq (len q2) 14) (bb (an (Nat.ble (0+len q2) (len BB)) (Au D6 q2)) (bb (Au Ah (BM q2 0 BB)) (bb (Nat.ble (0+14) (len (BM q2 0 BB))) (bb (Nat.ble (0+14) (len q1)) (bb (Nr UD (Aq 14 (Am 0 (BM q2 0 BB)))) (oo (Cj (Aq 14 (Am 0 (BM q2 0 BB))) (Aq 14 (Am 0 q1))) none fun b0=>(bb (bq true b0) (bb (GV 1 8 n0 c0 1 q0) (bb (Au Ah (Br (Am 0 q0) [(.int .i64 (Int.ofNat k1))])) (Pi pu n ih0 (n0+1) (2*(n0+1)+bb false 1 0) s0 z0 (Int.ofNat k1) (Br (Am 0 q0) [(.int .i64 (Int.ofNat k1))]) q1 (BM q2 0 BB)) none) none) (Pi pu n ih0 n0 c0 s0 z0 (Int.ofNat k1) q0 q1 (BM q2 0 BB)))) none) none) none) none) none) none) none) none))) none))))) none) none)) (QN pu n n0 c0 q0)) none) none)
def Ov (pu:Af) (n w:Nat):Nat→Nat→Sl→Int→Int→LV→LV→OV:=
 Nat.rec (motive:=fun _=>Nat→Nat→Sl→Int→Int→LV→LV→OV) (fun _ _ _ _ _ _ _=>none) (fun _ ih0=>Ou pu n ih0) w
def Xc (pu:Af) (n:Nat) (x0:Int) (s0:Sl):OV:=
 (oo (pu 55 [(.agg ⟨[.int .i64 x0,(Sl.v 2 s0)]⟩)]) none fun v0=>(oo (Bi .i64 v0) none fun x1=>(bb (nt (Bd x1 (0:Int))) (some (.tuple ⟨[(Sl.v 1 (Sl.mk 0 2 [])),.int .i64 x1]⟩)) (oo (pu 56 [.int .i64 x0]) none fun v1=>(oo (Bt v1) none fun q0=>(bb (an (Nat.beq (len q0) 14) (Au Ah q0)) (bb (Nat.beq (len q0) 14) (bb (an (Nat.ble (0+len q0) (len BB)) (Au D6 q0)) (bb (Au Ah (BM q0 0 BB)) (Ov pu n n 0 0 s0 (Int.ofNat (Sl.n s0)) (0:Int) ([]:LV) (BM q0 0 BB)) none) none) none) none))))))
def m11 (pu:Af) (n:Nat) (args:LV):OV:=
 (ll args none fun a0 args=>(ll args (oo (Bt a0) none fun l0=>(ll l0 none fun v0 l0=>(ll l0 none fun v1 l0=>(ll l0 (oo (Bi .i64 v0) none fun x0=>(oo (Bj 2 v1) none fun s0=>(Xc pu n x0 s0))) fun _ _=>none)))) fun _ _=>none))
theorem wZ (pu:Af) (n n0 c0:Nat) (q0:LV) {v:Value} (hm:QN pu n n0 c0 q0=some v):BN tt (Bb tabs FM pu (inl pu)) 1 UT (fr 39 [(5,sc 1 0 1 n0 c0)]) (hT 2 [oC q0]) (Fin tt 1 [.tmp 2,.tmp 3] v):=by
 unfold QN at hm
 refine .then (.rK ?_)
 replace hm:=Ae hm;obtain⟨h0,hm⟩:=hm
 refine .ghs (fr 39 [(2,sc 1 0 1 n0 c0),(3,(zI (0:Int)))]) (hT 2 [oC q0]) (.k [1] [false] [.tmp 2 false] [2,3] ⟨Bq h0,trivial⟩) ?_
 replace hm:=Ae hm;obtain⟨h1,hm⟩:=hm
 refine .ghs (Fr.puts (fr 39 [(2,sc 1 0 1 n0 c0),(3,(zI (0:Int)))]) [(2,(Sl.v 1 (Sl.mk n0 0 (Aq (n0*1) (Am 0 q0)))))]) (hT 2 [.dead]) (.freezeC 1 2 1 (an (Nat.ble (0+n0*1) (len q0)) (Au Ah (Aq (n0*1) (Am 0 q0)))) (F1:=(Fr.puts (fr 39 [(2,sc 1 0 1 n0 c0),(3,(zI (0:Int)))]) [(2,(Sl.v 1 (Sl.mk n0 0 (Aq (n0*1) (Am 0 q0)))))])) (H1:=(hT 2 [.dead])) (by kernel_rfl) (by kernel_rfl) h1 (E9.id _ _)) ?_
 refine .ret ?_
 exact Cs (.tuple ⟨[(Sl.v 1 (Sl.mk n0 0 (Aq (n0*1) (Am 0 q0)))),(zI (0:Int))]⟩) hm
theorem r11 {call:A8} (pu:Af) (n:Nat) (hcall:call=Bb tabs FM pu (inl pu)) {args:LV} {v:Value} (hm:m11 pu n args=some v) (_:∀ x∈args,closed2 x=true):args.length≤39∧BN tt call 1 PK (Fr.made 39 args) (Ao tabs) (Fin tt 1 [.tmp 2,.tmp 3] v):=by
 subst hcall
 unfold m11 at hm
 replace hm:=Ad hm;obtain⟨a0,args_0,rfl,hm⟩:=hm
 replace hm:=AC hm;obtain⟨rfl,hm⟩:=hm
 replace hm:=BG hm;obtain⟨l0,rfl,hm⟩:=hm
 replace hm:=Ad hm;obtain⟨v0,l4565_0,rfl,hm⟩:=hm
 replace hm:=Ad hm;obtain⟨v1,l4565_1,rfl,hm⟩:=hm
 replace hm:=AC hm;obtain⟨rfl,hm⟩:=hm
 replace hm:=Ai hm;obtain⟨x0,rfl,hm⟩:=hm
 replace hm:=Al hm;obtain⟨s0,rfl,hm⟩:=hm
 unfold Xc at hm
 refine⟨by simp,?_⟩
 refine .same (F':=(fr 39 [(0,(.agg ⟨[zI x0,(Sl.v 2 s0)]⟩))])) (H':=Co) (by kernel_rfl) (by kernel_rfl) ?_
 refine .then (.rK (.ghs (fr 39 [(1,pt 1 0)]) (hT 2 [(oC [zI x0,(Sl.v 2 s0)])]) (.k0 [false] [.tmp 1 false] [1]) ?_))
 refine .then (.then ?_)
 replace hm:=I9 hm;obtain⟨x1,h0,hm⟩:=hm
 refine .reg (eC 1 ((oo (pu 55 [(.agg ⟨[zI x0,(Sl.v 2 s0)]⟩)]) none fun v=>some (v,(hT 2 [(oC [zI x0,(Sl.v 2 s0)])])))) (AB h0) (eE)) ?_
 refine .ghs (fr 39 [(1,pt 1 0),(4,zI x1)]) (hT 2 [(oC [zI x0,(Sl.v 2 s0)])]) (.k0 [false] [.tmp 1 false] [1,4]) ?_
 refine .then (.rK (.ghs (fr 39 [(1,pt 1 0),(4,zI x1),(13,(zB (nt (Bd x1 (0:Int)))))]) (hT 2 [(oC [zI x0,(Sl.v 2 s0)])]) (.k0 [false] [.tmp 1 false] [1,4,13]) ?_))
 replace hm:=Ag hm;rcases hm with⟨h1,hm⟩ | ⟨h1,hm⟩
 ·refine DL (nt (Bd x1 (0:Int))) h1 ?_
  refine .then (.rK (.ghs (fr 39 [(2,(.slice none 0 0)),(3,zI x1)]) Co (.k0 [false] [] [2,3]) ?_))
  refine .ghs (Fr.puts (fr 39 [(2,(.slice none 0 0)),(3,zI x1)]) [(2,(Sl.v 1 (Sl.mk 0 2 [])))]) Co (.freeze 1 2 1 (by kernel_rfl) (by kernel_rfl) (E9.id _ _)) ?_
  refine .ret ?_
  exact Cs (.tuple ⟨[(Sl.v 1 (Sl.mk 0 2 [])),zI x1]⟩) hm
 ·refine DT (nt (Bd x1 (0:Int))) h1 ?_
  refine .skip (.ghs (fr 39 [(1,pt 1 0)]) (hT 2 [(oC [zI x0,(Sl.v 2 s0)])]) (.k0 [false] [.tmp 1 false] [1]) ?_)
  refine .then (.rK (.ghs (fr 39 [(1,pt 1 0),(5,(.slice none 0 0))]) (hT 2 [(oC [zI x0,(Sl.v 2 s0)])]) (.k0 [false] [.tmp 1 false] [1,5]) ?_))
  refine .then ?_
  replace hm:=Ab hm;obtain⟨v2,h2,hm⟩:=hm
  replace hm:=BG hm;obtain⟨q0,rfl,hm⟩:=hm
  replace hm:=Ae hm;obtain⟨h3,hm⟩:=hm
  replace hm:=Ae hm;obtain⟨h4,hm⟩:=hm
  replace hm:=Ae hm;obtain⟨h5,hm⟩:=hm
  refine .reg (eC 2 ((oo (pu 56 [zI x0]) none fun v=>some (v,(hT 2 [(oC [zI x0,(Sl.v 2 s0)])])))) (AB h2) (eC 1 (done (bb (Nat.beq (len q0) 14) (bb (an (Nat.ble (0+len q0) (len BB)) (Au D6 q0)) (some (hT 3 [(oC [zI x0,(Sl.v 2 s0)]),(oC (BM q0 0 BB))])) none) none) undef) (bH h4 h5) (eE))) ?_
  replace hm:=Ae hm;obtain⟨h6,hm⟩:=hm
  refine .ghs (fr 39 [(1,pt 1 0),(5,(.slice none 0 0)),(6,(pt 2 0))]) (hT 3 [(oC [zI x0,(Sl.v 2 s0)]),(oC (BM q0 0 BB))]) (.k [2] [false] [.tmp 1 false,.tmp 6 false] [1,5,6] ⟨Bq h6,trivial⟩) ?_
  refine .join (v:=v) (fun y:Nat×Nat×LV=>((fr 39 [(5,(sc 1 0 1 y.1 y.2.1))]),(hT 2 [(oC y.2.2)]))) (fun y=>QN pu n y.1 y.2.1 y.2.2) ?_ ?_
  ·rintro⟨n0,c0,q1⟩ hm
   exact wZ pu n n0 c0 q1 hm
  ·refine .then (.rK (.ghs (fr 39 [(5,(.slice none 0 0)),(6,pt 1 0),(19,(Sl.v 2 s0)),(20,(zI (Int.ofNat (Sl.n s0)))),(21,(zI (0:Int)))]) (hT 2 [(oC (BM q0 0 BB))]) (.k [2] [false] [.tmp 6 false] [5,6,19,20,21] ⟨Bq h6,trivial⟩) ?_))
   refine .block (.loopM (v:=v) (fun y:Nat×Nat×Sl×Int×Int×LV×LV=>((fr 39 [(5,(sc 1 0 1 y.1 y.2.1)),(6,(pt 2 0)),(19,(Sl.v 2 y.2.2.1)),(20,(zI y.2.2.2.1)),(21,(zI y.2.2.2.2.1))]),(hT 3 [(oC y.2.2.2.2.2.1),(oC y.2.2.2.2.2.2)]))) (fun w y=>Ov pu n w y.1 y.2.1 y.2.2.1 y.2.2.2.1 y.2.2.2.2.1 y.2.2.2.2.2.1 y.2.2.2.2.2.2) n ⟨(0,0,s0,(Int.ofNat (Sl.n s0)),(0:Int),([]:LV),(BM q0 0 BB)),hm,(.thaw 5 1 (by kernel_rfl) (.k [1] [false] [.tmp 5 false,.tmp 6 false] [5,6,19,20,21] ⟨Bq h6,trivial⟩))⟩ (fun _=>rfl) ?_)
   rintro w0 ⟨n1,c1,s1,z0,z1,q2,q3⟩ hm
   replace hm:Ou pu n (Ov pu n w0) n1 c1 s1 z0 z1 q2 q3=some v:=hm
   unfold Ou at hm
   refine .then (.rK ?_)
   replace hm:=Ae hm;obtain⟨h7,hm⟩:=hm
   replace hm:=Ae hm;obtain⟨h8,hm⟩:=hm
   refine .ghs (fr 39 [(5,sc 1 0 1 n1 c1),(6,(pt 2 0)),(19,(Sl.v 2 s1)),(20,zI z0),(21,zI z1),(22,(zB (AY z1 z0)))]) (hT 3 [oC q2,oC q3]) (.k [1,2] [false] [.tmp 5 false,.tmp 6 false] [5,6,19,20,21,22] ⟨Bq h7,Bq h8,trivial⟩) ?_
   refine .then ?_
   replace hm:=Ag hm;rcases hm with⟨h9,hm⟩ | ⟨h9,hm⟩
   ·refine DL (AY z1 z0) h9 ?_
    refine .skip (.ghs (fr 39 [(5,sc 1 0 1 n1 c1),(6,(pt 2 0)),(19,(Sl.v 2 s1)),(20,zI z0),(21,zI z1)]) (hT 3 [oC q2,oC q3]) (.k [1,2] [false] [.tmp 5 false,.tmp 6 false] [5,6,19,20,21] ⟨Bq h7,Bq h8,trivial⟩) ?_)
    refine .then (.block (.then ?_))
    replace hm:=Ab hm;obtain⟨k1,h10,hm⟩:=hm
    obtain rfl:=AR h10
    replace hm:=Ae hm;obtain⟨h11,hm⟩:=hm
    replace hm:=Ae hm;obtain⟨h12,hm⟩:=hm
    replace hm:=I9 hm;obtain⟨x2,h13,hm⟩:=hm
    replace hm:=I9 hm;obtain⟨x3,h14,hm⟩:=hm
    refine .reg (eC 1 (keep (hT 3 [oC q2,oC q3]) (bb (an (Nat.blt k1 (Sl.n s1)) true) (some (Cv (k1*2) (Sl.cs s1))) none)) (AX h11) (eD (keep (hT 3 [oC q2,oC q3]) (bb (Nat.ble ((k1*2)+2) (len (Sl.cs s1))) (some (.agg ⟨Aq 2 (Am (k1*2) (Sl.cs s1))⟩)) none)) (Pd h12 (Ca h13 (Ca h14 rfl))) (eE))) ?_
    refine .ghs (fr 39 [(5,sc 1 0 1 n1 c1),(6,(pt 2 0)),(7,(zI (Int.ofNat k1))),(8,(pt 3 0)),(19,(Sl.v 2 s1)),(20,zI z0),(21,(zI (Int.ofNat k1)))]) (hT 4 [oC q2,oC q3,(oC [zI x2,zI x3])]) (.k [1,2] [false] [.tmp 5 false,.tmp 6 false,.tmp 8 false] [5,6,7,8,19,20,21] ⟨Bq h7,Bq h8,trivial⟩) ?_
    refine .then ?_
    replace hm:=Ae hm;obtain⟨h15,hm⟩:=hm
    replace hm:=Ab hm;obtain⟨v3,h16,hm⟩:=hm
    replace hm:=BG hm;obtain⟨q4,rfl,hm⟩:=hm
    replace hm:=Ae hm;obtain⟨h17,hm⟩:=hm
    replace hm:=Ae hm;obtain⟨h18,hm⟩:=hm
    replace hm:=Ae hm;obtain⟨h19,hm⟩:=hm
    replace hm:=Ae hm;obtain⟨h20,hm⟩:=hm
    refine .reg (eD (keep (hT 4 [oC q2,oC q3,(oC [zI x2,zI x3])]) (bb (Nat.ble (0+14) (len q3)) (some (.agg ⟨(Aq 14 (Am 0 q3))⟩)) none)) (AX h15) (eC 1 (bb (Au closed2 [(.agg ⟨(Aq 14 (Am 0 q3))⟩),(.agg ⟨[zI x2,zI x3]⟩)]) (oo (pu 57 [(.agg ⟨(Aq 14 (Am 0 q3))⟩),(.agg ⟨[zI x2,zI x3]⟩)]) none fun v=>some (v,(hT 4 [oC q2,oC q3,(oC [zI x2,zI x3])]))) (oo (CG (RG (hT 4 [oC q2,oC q3,(oC [zI x2,zI x3])])) [(.agg ⟨(Aq 14 (Am 0 q3))⟩),(.agg ⟨[zI x2,zI x3]⟩)]) none fun l1=>oo (pu 57 l1) none fun v=>bb (RH v) (some (v,(hT 4 [oC q2,oC q3,(oC [zI x2,zI x3])]))) none)) (SL h18 h16) (eC 1 (done (bb (Nat.beq (len q4) 14) (bb (an (Nat.ble (0+len q4) (len BB)) (Au D6 q4)) (some (hT 5 [oC q2,oC q3,(oC [zI x2,zI x3]),(oC (BM q4 0 BB))])) none) none) undef) (bH h19 h20) (eE)))) ?_
    replace hm:=Ae hm;obtain⟨h21,hm⟩:=hm
    refine .ghs (fr 39 [(5,sc 1 0 1 n1 c1),(6,(pt 2 0)),(7,(zI (Int.ofNat k1))),(9,(pt 3 0)),(19,(Sl.v 2 s1)),(20,zI z0),(21,(zI (Int.ofNat k1)))]) (hT 4 [oC q2,oC q3,(oC (BM q4 0 BB))]) (.k [1,2,4] [false] [.tmp 5 false,.tmp 6 false,.tmp 9 false] [5,6,7,9,19,20,21] ⟨Bq h7,Bq h8,Bq h21,trivial⟩) ?_
    refine .join (v:=v) (fun y:Nat×Nat×Sl×Int×Int×LV×LV×LV=>((fr 39 [(5,(sc 1 0 1 y.1 y.2.1)),(6,(pt 2 0)),(9,(pt 3 0)),(19,(Sl.v 2 y.2.2.1)),(20,(zI y.2.2.2.1)),(21,(zI y.2.2.2.2.1))]),(hT 4 [(oC y.2.2.2.2.2.1),(oC y.2.2.2.2.2.2.1),(oC y.2.2.2.2.2.2.2)]))) (fun y=>Pi pu n (Ov pu n w0) y.1 y.2.1 y.2.2.1 y.2.2.2.1 y.2.2.2.2.1 y.2.2.2.2.2.1 y.2.2.2.2.2.2.1 y.2.2.2.2.2.2.2) ?_ ?_
    ·rintro⟨n2,c2,s2,z2,z3,q5,q6,q7⟩ hm
     unfold Pi at hm
     replace hm:=Ae hm;obtain⟨h22,hm⟩:=hm
     replace hm:=Ae hm;obtain⟨h23,hm⟩:=hm
     replace hm:=Ae hm;obtain⟨h24,hm⟩:=hm
     refine .reg (eD (keep (hT 4 [oC q5,oC q6,oC q7]) (bb (Nat.ble (0+14) (len q7)) (some (.agg ⟨(Aq 14 (Am 0 q7))⟩)) none)) (AX h22) (eD (done (bb (Nat.beq (len (Aq 14 (Am 0 q7))) 14) (bb (an (Nat.ble (0+len (Aq 14 (Am 0 q7))) (len q6)) (Au D6 (Aq 14 (Am 0 q7)))) (some (hT 4 [oC q5,(oC (BM (Aq 14 (Am 0 q7)) 0 q6)),oC q7])) none) none) undef) (bH h23 h24) (eE))) ?_
     replace hm:=Ae hm;obtain⟨h25,hm⟩:=hm
     replace hm:=Ae hm;obtain⟨h26,hm⟩:=hm
     refine .ghs (fr 39 [(5,sc 1 0 1 n2 c2),(6,(pt 2 0)),(19,(Sl.v 2 s2)),(20,zI z2),(21,zI z3)]) (hT 3 [oC q5,(oC (BM (Aq 14 (Am 0 q7)) 0 q6))]) (.k [1,2] [false] [.tmp 5 false,.tmp 6 false] [5,6,19,20,21] ⟨Bq h25,Bq h26,trivial⟩) ?_
     refine .rK ?_
     exact⟨(n2,c2,s2,z2,(Aj .i64 (Int.add z3 (1:Int))),q5,(BM (Aq 14 (Am 0 q7)) 0 q6)),hm,(.k [1,2] [false] [.tmp 5 false,.tmp 6 false] [5,6,19,20,21] ⟨Bq h25,Bq h26,trivial⟩)⟩
    ·refine .then ?_
     replace hm:=Ae hm;obtain⟨h27,hm⟩:=hm
     replace hm:=Ae hm;obtain⟨h28,hm⟩:=hm
     replace hm:=Ae hm;obtain⟨h29,hm⟩:=hm
     replace hm:=Ab hm;obtain⟨b0,h30,hm⟩:=hm
     refine .reg (eD (keep (hT 4 [oC q2,oC q3,(oC (BM q4 0 BB))]) (bb (Nat.ble (0+14) (len (BM q4 0 BB))) (some (.agg ⟨(Aq 14 (Am 0 (BM q4 0 BB)))⟩)) none)) (AX h27) (eD (keep (hT 4 [oC q2,oC q3,(oC (BM q4 0 BB))]) (bb (Nat.ble (0+14) (len q3)) (some (.agg ⟨(Aq 14 (Am 0 q3))⟩)) none)) (AX h28) (eD (keep (hT 4 [oC q2,oC q3,(oC (BM q4 0 BB))]) (oo (bb (Nr UD (Aq 14 (Am 0 (BM q4 0 BB)))) (Cj (Aq 14 (Am 0 (BM q4 0 BB))) (Aq 14 (Am 0 q3))) none) none fun b=>bv (bq true b))) (UR h29 h30) (eE)))) ?_
     refine .ghs (fr 39 [(5,sc 1 0 1 n1 c1),(6,(pt 2 0)),(7,(zI (Int.ofNat k1))),(9,(pt 3 0)),(19,(Sl.v 2 s1)),(20,zI z0),(21,(zI (Int.ofNat k1))),(31,(zB (bq true b0)))]) (hT 4 [oC q2,oC q3,(oC (BM q4 0 BB))]) (.k [1,2,3] [false] [.tmp 5 false,.tmp 6 false,.tmp 9 false] [5,6,7,9,19,20,21,31] ⟨Bq h7,Bq h8,Bq h21,trivial⟩) ?_
     replace hm:=Ag hm;rcases hm with⟨h31,hm⟩ | ⟨h31,hm⟩
     ·refine DL (bq true b0) h31 ?_
      replace hm:=Ae hm;obtain⟨h32,hm⟩:=hm
      refine .reg (eC 3 (Oc 1 8 n1 c1 1 1 q2 [(zI (Int.ofNat k1))] [] (hT 5 [oC q2,oC q3,(oC (BM q4 0 BB)),(oC [(zI (Int.ofNat k1))])])) (I1 h32) (eE)) ?_
      replace hm:=Ae hm;obtain⟨h33,hm⟩:=hm
      exact⟨((n1+1),(d2 (n1+1)),s1,z0,(Int.ofNat k1),(Br (Am 0 q2) [(zI (Int.ofNat k1))]),q3,(BM q4 0 BB)),hm,(.k [5,2,3] [false] [.tmp 5 false,.tmp 6 false,.tmp 9 false] [5,6,9,19,20,21] ⟨Bq h33,Bq h8,Bq h21,trivial⟩)⟩
     ·refine DT (bq true b0) h31 ?_
      refine .skip ?_
      exact⟨(n1,c1,s1,z0,(Int.ofNat k1),q2,q3,(BM q4 0 BB)),hm,(.k [1,2,3] [false] [.tmp 5 false,.tmp 6 false,.tmp 9 false] [5,6,9,19,20,21] ⟨Bq h7,Bq h8,Bq h21,trivial⟩)⟩
   ·refine DT (AY z1 z0) h9 ?_
    refine .exit ?_
    exact⟨(n1,c1,q2),hm,(.k [1] [false] [.tmp 5 false] [5] ⟨Bq h7,trivial⟩)⟩
def QO (pu:Af) (n n0 c0:Nat) (q0:LV):OV:=
 (bb (Au Ah q0) (bb (an (Nat.ble (0+n0*1) (len q0)) (Au Ah (Aq (n0*1) (Am 0 q0)))) (some (.tuple ⟨[(Sl.v 1 (Sl.mk n0 0 (Aq (n0*1) (Am 0 q0)))),(.int .i64 (0:Int))]⟩)) none) none)
def Pj (pu:Af) (n:Nat) (ih0:Nat→Nat→Sl→Int→Int→Int→Sl→LV→LV→OV) (n0 c0:Nat) (s0:Sl) (z0 z1 z2:Int) (s1:Sl) (q0:LV) (q1:LV) (z3 z4:Int):OV:=
 (bb (Nat.ble (0+14) (len q1)) (oo (pu 57 [(.agg ⟨(Aq 14 (Am 0 q1))⟩),(.agg ⟨[.int .i64 z3,.int .i64 z4]⟩)]) none fun v0=>(oo (Bt v0) none fun q2=>(bb (an (Nat.beq (len q2) 14) (Au Ah q2)) (bb (Au closed2 [(.agg ⟨(Aq 14 (Am 0 q1))⟩),(.agg ⟨[.int .i64 z3,.int .i64 z4]⟩)]) (bb (Nat.beq (len q2) 14) (bb (an (Nat.ble (0+len q2) (len q1)) (Au D6 q2)) (bb (Au Ah q0) (bb (Au Ah (BM q2 0 q1)) (ih0 n0 c0 s0 z0 (Aj .i64 (Int.add z1 (1:Int))) z2 s1 q0 (BM q2 0 q1)) none) none) none) none) none) none))) none)
def Ow (pu:Af) (n:Nat) (ih0:Nat→Nat→Sl→Int→Int→Int→Sl→LV→LV→OV) (n0 c0:Nat) (s0:Sl) (z0 z1 z2:Int) (s1:Sl) (q0:LV) (q1:LV):OV:=
 (bb (Au Ah q0) (bb (Au Ah q1) (bb (AY z1 z0) (oo (EA z1) none fun k1=>(bb (an (Nat.blt k1 (Sl.n s0)) true) (bb (Nat.ble ((k1*2)+2) (len (Sl.cs s0))) (oo (AL (Sl.cs s0) (k1*2)) none fun v0=>(oo (Bi .i64 v0) none fun x0=>(oo (AL (Sl.cs s0) ((k1*2)+1)) none fun v1=>(oo (Bi .i64 v1) none fun x1=>(bb (Nat.ble (0+14) (len q1)) (oo (EA (Aj .i64 (Int.add (Int.ofNat k1) (1:Int)))) none fun k2=>(bb (nt (Nat.beq (Sl.fl s1) 2)) (bb (Nat.ble k2 (Sl.n s1)) (oo (pu 60 [(.agg ⟨(Aq 14 (Am 0 q1))⟩),(Sl.v 2 (Sl.mk ((Sl.n s1) - k2) (bb (an (Nat.beq (Sl.n s1) (Sl.n s1)) (Dp false (Nat.beq (Sl.fl s1) 1))) 1 0) (Aq (((Sl.n s1) - k2)*2) (Am (k2*2) (Sl.cs s1)))))]) none fun v2=>(oo (Bt v2) none fun q2=>(bb (an (Nat.beq (len q2) 14) (Au Ah q2)) (bb (Au closed2 [(.agg ⟨(Aq 14 (Am 0 q1))⟩),(Sl.v 2 (Sl.mk ((Sl.n s1) - k2) (bb (an (Nat.beq (Sl.n s1) (Sl.n s1)) (Dp false (Nat.beq (Sl.fl s1) 1))) 1 0) (Aq (((Sl.n s1) - k2)*2) (Am (k2*2) (Sl.cs s1)))))]) (oo (pu 61 [(.agg ⟨q2⟩),.int .i64 z2]) none fun v3=>(oo (Bi .i64 v3) none fun x2=>(bb (Au closed2 [(.agg ⟨q2⟩),.int .i64 z2]) (bb (nt (AY x2 (0:Int))) (bb (GV 1 8 n0 c0 1 q0) (bb (Au Ah (Br (Am 0 q0) [(.int .i64 (Int.ofNat k1))])) (Pj pu n ih0 (n0+1) (2*(n0+1)+bb false 1 0) s0 z0 (Int.ofNat k1) z2 s1 (Br (Am 0 q0) [(.int .i64 (Int.ofNat k1))]) q1 x0 x1) none) none) (Pj pu n ih0 n0 c0 s0 z0 (Int.ofNat k1) z2 s1 q0 q1 x0 x1)) none))) none) none))) none) none)) none))))) none) none)) (QO pu n n0 c0 q0)) none) none)
def Ox (pu:Af) (n w:Nat):Nat→Nat→Sl→Int→Int→Int→Sl→LV→LV→OV:=
 Nat.rec (motive:=fun _=>Nat→Nat→Sl→Int→Int→Int→Sl→LV→LV→OV) (fun _ _ _ _ _ _ _ _ _=>none) (fun _ ih0=>Ow pu n ih0) w
def UI (pu:Af) (n:Nat) (x0:Int) (s0:Sl):OV:=
 (oo (pu 46 [(.agg ⟨[.int .i64 x0,(Sl.v 2 s0)]⟩)]) none fun v0=>(oo (CQ v0) none fun l0=>(ll l0 none fun v1 l0=>(ll l0 none fun v2 l0=>(ll l0 (oo (Bf v1) none fun b0=>(oo (Bi .i64 v2) none fun x1=>(bb (nt (Bd x1 (0:Int))) (some (.tuple ⟨[(Sl.v 1 (Sl.mk 0 2 [])),.int .i64 x1]⟩)) (bb (nt b0) (some (.tuple ⟨[(Sl.v 1 (Sl.mk 0 2 [])),(.int .i64 (12:Int))]⟩)) (oo (pu 56 [.int .i64 x0]) none fun v3=>(oo (Bt v3) none fun q0=>(bb (an (Nat.beq (len q0) 14) (Au Ah q0)) (bb (Nat.beq (len q0) 14) (bb (an (Nat.ble (0+len q0) (len BB)) (Au D6 q0)) (bb (Au Ah (BM q0 0 BB)) (Ox pu n n 0 0 s0 (Int.ofNat (Sl.n s0)) (0:Int) x0 s0 ([]:LV) (BM q0 0 BB)) none) none) none) none))))))) fun _ _=>none)))))
def m13 (pu:Af) (n:Nat) (args:LV):OV:=
 (ll args none fun a0 args=>(ll args (oo (Bt a0) none fun l0=>(ll l0 none fun v0 l0=>(ll l0 none fun v1 l0=>(ll l0 (oo (Bi .i64 v0) none fun x0=>(oo (Bj 2 v1) none fun s0=>(UI pu n x0 s0))) fun _ _=>none)))) fun _ _=>none))
theorem xA (pu:Af) (n n0 c0:Nat) (q0:LV) {v:Value} (hm:QO pu n n0 c0 q0=some v):BN tt (Bb tabs FM pu (inl pu)) 1 UU (fr 53 [(6,sc 1 0 1 n0 c0)]) (hT 2 [oC q0]) (Fin tt 1 [.tmp 2,.tmp 3] v):=by
 unfold QO at hm
 refine .then (.rK ?_)
 replace hm:=Ae hm;obtain⟨h0,hm⟩:=hm
 refine .ghs (fr 53 [(2,sc 1 0 1 n0 c0),(3,(zI (0:Int)))]) (hT 2 [oC q0]) (.k [1] [false] [.tmp 2 false] [2,3] ⟨Bq h0,trivial⟩) ?_
 replace hm:=Ae hm;obtain⟨h1,hm⟩:=hm
 refine .ghs (Fr.puts (fr 53 [(2,sc 1 0 1 n0 c0),(3,(zI (0:Int)))]) [(2,(Sl.v 1 (Sl.mk n0 0 (Aq (n0*1) (Am 0 q0)))))]) (hT 2 [.dead]) (.freezeC 1 2 1 (an (Nat.ble (0+n0*1) (len q0)) (Au Ah (Aq (n0*1) (Am 0 q0)))) (F1:=(Fr.puts (fr 53 [(2,sc 1 0 1 n0 c0),(3,(zI (0:Int)))]) [(2,(Sl.v 1 (Sl.mk n0 0 (Aq (n0*1) (Am 0 q0)))))])) (H1:=(hT 2 [.dead])) (by kernel_rfl) (by kernel_rfl) h1 (E9.id _ _)) ?_
 refine .ret ?_
 exact Cs (.tuple ⟨[(Sl.v 1 (Sl.mk n0 0 (Aq (n0*1) (Am 0 q0)))),(zI (0:Int))]⟩) hm
theorem r13 {call:A8} (pu:Af) (n:Nat) (hcall:call=Bb tabs FM pu (inl pu)) {args:LV} {v:Value} (hm:m13 pu n args=some v) (_:∀ x∈args,closed2 x=true):args.length≤53∧BN tt call 1 PL (Fr.made 53 args) (Ao tabs) (Fin tt 1 [.tmp 2,.tmp 3] v):=by
 subst hcall
 unfold m13 at hm
 replace hm:=Ad hm;obtain⟨a0,args_0,rfl,hm⟩:=hm
 replace hm:=AC hm;obtain⟨rfl,hm⟩:=hm
 replace hm:=BG hm;obtain⟨l0,rfl,hm⟩:=hm
 replace hm:=Ad hm;obtain⟨v0,l4932_0,rfl,hm⟩:=hm
 replace hm:=Ad hm;obtain⟨v1,l4932_1,rfl,hm⟩:=hm
 replace hm:=AC hm;obtain⟨rfl,hm⟩:=hm
 replace hm:=Ai hm;obtain⟨x0,rfl,hm⟩:=hm
 replace hm:=Al hm;obtain⟨s0,rfl,hm⟩:=hm
 unfold UI at hm
 refine⟨by simp,?_⟩
 refine .same (F':=(fr 53 [(0,(.agg ⟨[zI x0,(Sl.v 2 s0)]⟩))])) (H':=Co) (by kernel_rfl) (by kernel_rfl) ?_
 refine .then (.rK (.ghs (fr 53 [(1,pt 1 0)]) (hT 2 [(oC [zI x0,(Sl.v 2 s0)])]) (.k0 [false] [.tmp 1 false] [1]) ?_))
 refine .then ?_
 replace hm:=Ab hm;obtain⟨v2,h0,hm⟩:=hm
 replace hm:=Ch hm;obtain⟨l2,rfl,hm⟩:=hm
 replace hm:=Ad hm;obtain⟨v3,l4952_0,rfl,hm⟩:=hm
 replace hm:=Ad hm;obtain⟨v4,l4952_1,rfl,hm⟩:=hm
 replace hm:=AC hm;obtain⟨rfl,hm⟩:=hm
 replace hm:=Be hm;obtain⟨b0,rfl,hm⟩:=hm
 replace hm:=Ai hm;obtain⟨x1,rfl,hm⟩:=hm
 refine .reg (eC 1 ((oo (pu 46 [(.agg ⟨[zI x0,(Sl.v 2 s0)]⟩)]) none fun v=>some (v,(hT 2 [(oC [zI x0,(Sl.v 2 s0)])])))) (AB h0) (eE)) ?_
 refine .ghs (fr 53 [(1,pt 1 0),(4,zB b0),(5,zI x1)]) (hT 2 [(oC [zI x0,(Sl.v 2 s0)])]) (.k0 [false] [.tmp 1 false] [1,4,5]) ?_
 refine .then (.block (.then (.rK (.ghs (fr 53 [(1,pt 1 0),(4,zB b0),(5,zI x1),(15,(zB (nt (Bd x1 (0:Int)))))]) (hT 2 [(oC [zI x0,(Sl.v 2 s0)])]) (.k0 [false] [.tmp 1 false] [1,4,5,15]) ?_))))
 replace hm:=Ag hm;rcases hm with⟨h1,hm⟩ | ⟨h1,hm⟩
 ·refine DL (nt (Bd x1 (0:Int))) h1 ?_
  refine .then (.rK (.ghs (fr 53 [(2,(.slice none 0 0)),(3,zI x1)]) Co (.k0 [false] [] [2,3]) ?_))
  refine .ghs (Fr.puts (fr 53 [(2,(.slice none 0 0)),(3,zI x1)]) [(2,(Sl.v 1 (Sl.mk 0 2 [])))]) Co (.freeze 1 2 1 (by kernel_rfl) (by kernel_rfl) (E9.id _ _)) ?_
  refine .ret ?_
  exact Cs (.tuple ⟨[(Sl.v 1 (Sl.mk 0 2 [])),zI x1]⟩) hm
 ·refine DT (nt (Bd x1 (0:Int))) h1 ?_
  refine .then (.rK (.ghs (fr 53 [(1,pt 1 0),(19,(zB (nt b0)))]) (hT 2 [(oC [zI x0,(Sl.v 2 s0)])]) (.k0 [false] [.tmp 1 false] [1,19]) ?_))
  replace hm:=Ag hm;rcases hm with⟨h2,hm⟩ | ⟨h2,hm⟩
  ·refine DL (nt b0) h2 ?_
   refine .then (.rK (.ghs (fr 53 [(2,(.slice none 0 0)),(3,(zI (12:Int)))]) Co (.k0 [false] [] [2,3]) ?_))
   refine .ghs (Fr.puts (fr 53 [(2,(.slice none 0 0)),(3,(zI (12:Int)))]) [(2,(Sl.v 1 (Sl.mk 0 2 [])))]) Co (.freeze 1 2 1 (by kernel_rfl) (by kernel_rfl) (E9.id _ _)) ?_
   refine .ret ?_
   exact Cs (.tuple ⟨[(Sl.v 1 (Sl.mk 0 2 [])),(zI (12:Int))]⟩) hm
  ·refine DT (nt b0) h2 ?_
   refine .skip (.ghs (fr 53 [(1,pt 1 0)]) (hT 2 [(oC [zI x0,(Sl.v 2 s0)])]) (.k0 [false] [.tmp 1 false] [1]) ?_)
   refine .then (.rK (.ghs (fr 53 [(1,pt 1 0),(6,(.slice none 0 0))]) (hT 2 [(oC [zI x0,(Sl.v 2 s0)])]) (.k0 [false] [.tmp 1 false] [1,6]) ?_))
   refine .then ?_
   replace hm:=Ab hm;obtain⟨v5,h3,hm⟩:=hm
   replace hm:=BG hm;obtain⟨q0,rfl,hm⟩:=hm
   replace hm:=Ae hm;obtain⟨h4,hm⟩:=hm
   replace hm:=Ae hm;obtain⟨h5,hm⟩:=hm
   replace hm:=Ae hm;obtain⟨h6,hm⟩:=hm
   refine .reg (eC 2 ((oo (pu 56 [zI x0]) none fun v=>some (v,(hT 2 [(oC [zI x0,(Sl.v 2 s0)])])))) (AB h3) (eC 1 (done (bb (Nat.beq (len q0) 14) (bb (an (Nat.ble (0+len q0) (len BB)) (Au D6 q0)) (some (hT 3 [(oC [zI x0,(Sl.v 2 s0)]),(oC (BM q0 0 BB))])) none) none) undef) (bH h5 h6) (eE))) ?_
   replace hm:=Ae hm;obtain⟨h7,hm⟩:=hm
   refine .ghs (fr 53 [(1,pt 1 0),(6,(.slice none 0 0)),(7,(pt 2 0))]) (hT 3 [(oC [zI x0,(Sl.v 2 s0)]),(oC (BM q0 0 BB))]) (.k [2] [false] [.tmp 1 false,.tmp 7 false] [1,6,7] ⟨Bq h7,trivial⟩) ?_
   refine .join (v:=v) (fun y:Nat×Nat×LV=>((fr 53 [(6,(sc 1 0 1 y.1 y.2.1))]),(hT 2 [(oC y.2.2)]))) (fun y=>QO pu n y.1 y.2.1 y.2.2) ?_ ?_
   ·rintro⟨n0,c0,q1⟩ hm
    exact xA pu n n0 c0 q1 hm
   ·refine .then (.rK (.ghs (fr 53 [(1,pt 1 0),(6,(.slice none 0 0)),(7,(pt 2 0)),(26,(Sl.v 2 s0)),(27,(zI (Int.ofNat (Sl.n s0)))),(28,(zI (0:Int)))]) (hT 3 [(oC [zI x0,(Sl.v 2 s0)]),(oC (BM q0 0 BB))]) (.k [2] [false] [.tmp 1 false,.tmp 7 false] [1,6,7,26,27,28] ⟨Bq h7,trivial⟩) ?_))
    refine .block (.loopM (v:=v) (fun y:Nat×Nat×Sl×Int×Int×Int×Sl×LV×LV=>((fr 53 [(1,pt 1 0),(6,(sc 2 0 1 y.1 y.2.1)),(7,(pt 3 0)),(26,(Sl.v 2 y.2.2.1)),(27,(zI y.2.2.2.1)),(28,(zI y.2.2.2.2.1))]),(hT 4 [(oC [(zI y.2.2.2.2.2.1),(Sl.v 2 y.2.2.2.2.2.2.1)]),(oC y.2.2.2.2.2.2.2.1),(oC y.2.2.2.2.2.2.2.2)]))) (fun w y=>Ox pu n w y.1 y.2.1 y.2.2.1 y.2.2.2.1 y.2.2.2.2.1 y.2.2.2.2.2.1 y.2.2.2.2.2.2.1 y.2.2.2.2.2.2.2.1 y.2.2.2.2.2.2.2.2) n ⟨(0,0,s0,(Int.ofNat (Sl.n s0)),(0:Int),x0,s0,([]:LV),(BM q0 0 BB)),hm,(.thaw 6 1 (by kernel_rfl) (.k [2] [false] [.tmp 1 false,.tmp 6 false,.tmp 7 false] [1,6,7,26,27,28] ⟨Bq h7,trivial⟩))⟩ (fun _=>rfl) ?_)
    rintro w0 ⟨n1,c3,s1,z0,z1,z2,s2,q2,q3⟩ hm
    replace hm:Ow pu n (Ox pu n w0) n1 c3 s1 z0 z1 z2 s2 q2 q3=some v:=hm
    unfold Ow at hm
    refine .then (.rK ?_)
    replace hm:=Ae hm;obtain⟨h8,hm⟩:=hm
    replace hm:=Ae hm;obtain⟨h9,hm⟩:=hm
    refine .ghs (fr 53 [(1,pt 1 0),(6,sc 2 0 1 n1 c3),(7,(pt 3 0)),(26,(Sl.v 2 s1)),(27,zI z0),(28,zI z1),(29,(zB (AY z1 z0)))]) (hT 4 [(oC [zI z2,(Sl.v 2 s2)]),oC q2,oC q3]) (.k [2,3] [false] [.tmp 1 false,.tmp 6 false,.tmp 7 false] [1,6,7,26,27,28,29] ⟨Bq h8,Bq h9,trivial⟩) ?_
    refine .then ?_
    replace hm:=Ag hm;rcases hm with⟨h10,hm⟩ | ⟨h10,hm⟩
    ·refine DL (AY z1 z0) h10 ?_
     refine .skip (.ghs (fr 53 [(1,pt 1 0),(6,sc 2 0 1 n1 c3),(7,(pt 3 0)),(26,(Sl.v 2 s1)),(27,zI z0),(28,zI z1)]) (hT 4 [(oC [zI z2,(Sl.v 2 s2)]),oC q2,oC q3]) (.k [2,3] [false] [.tmp 1 false,.tmp 6 false,.tmp 7 false] [1,6,7,26,27,28] ⟨Bq h8,Bq h9,trivial⟩) ?_)
     refine .then (.block (.then ?_))
     replace hm:=Ab hm;obtain⟨k1,h11,hm⟩:=hm
     obtain rfl:=AR h11
     replace hm:=Ae hm;obtain⟨h12,hm⟩:=hm
     replace hm:=Ae hm;obtain⟨h13,hm⟩:=hm
     replace hm:=I9 hm;obtain⟨x2,h14,hm⟩:=hm
     replace hm:=I9 hm;obtain⟨x3,h15,hm⟩:=hm
     refine .reg (eC 1 (keep (hT 4 [(oC [zI z2,(Sl.v 2 s2)]),oC q2,oC q3]) (bb (an (Nat.blt k1 (Sl.n s1)) true) (some (Cv (k1*2) (Sl.cs s1))) none)) (AX h12) (eD (keep (hT 4 [(oC [zI z2,(Sl.v 2 s2)]),oC q2,oC q3]) (bb (Nat.ble ((k1*2)+2) (len (Sl.cs s1))) (some (.agg ⟨Aq 2 (Am (k1*2) (Sl.cs s1))⟩)) none)) (Pd h13 (Ca h14 (Ca h15 rfl))) (eE))) ?_
     refine .ghs (fr 53 [(1,pt 1 0),(6,sc 2 0 1 n1 c3),(7,(pt 3 0)),(8,(zI (Int.ofNat k1))),(9,(pt 4 0)),(26,(Sl.v 2 s1)),(27,zI z0),(28,(zI (Int.ofNat k1)))]) (hT 5 [(oC [zI z2,(Sl.v 2 s2)]),oC q2,oC q3,(oC [zI x2,zI x3])]) (.k [2,3] [false] [.tmp 1 false,.tmp 6 false,.tmp 7 false,.tmp 9 false] [1,6,7,8,9,26,27,28] ⟨Bq h8,Bq h9,trivial⟩) ?_
     refine .join (v:=v) (fun y:Nat×Nat×Sl×Int×Int×Int×Sl×LV×LV×Int×Int=>((fr 53 [(1,pt 1 0),(6,(sc 2 0 1 y.1 y.2.1)),(7,(pt 3 0)),(9,(pt 4 0)),(26,(Sl.v 2 y.2.2.1)),(27,(zI y.2.2.2.1)),(28,(zI y.2.2.2.2.1))]),(hT 5 [(oC [(zI y.2.2.2.2.2.1),(Sl.v 2 y.2.2.2.2.2.2.1)]),(oC y.2.2.2.2.2.2.2.1),(oC y.2.2.2.2.2.2.2.2.1),(oC [(zI y.2.2.2.2.2.2.2.2.2.1),(zI y.2.2.2.2.2.2.2.2.2.2)])]))) (fun y=>Pj pu n (Ox pu n w0) y.1 y.2.1 y.2.2.1 y.2.2.2.1 y.2.2.2.2.1 y.2.2.2.2.2.1 y.2.2.2.2.2.2.1 y.2.2.2.2.2.2.2.1 y.2.2.2.2.2.2.2.2.1 y.2.2.2.2.2.2.2.2.2.1 y.2.2.2.2.2.2.2.2.2.2) ?_ ?_
     ·rintro⟨n2,c4,s3,z3,z4,z5,s4,q4,q5,z6,z7⟩ hm
      unfold Pj at hm
      replace hm:=Ae hm;obtain⟨h16,hm⟩:=hm
      replace hm:=Ab hm;obtain⟨v6,h17,hm⟩:=hm
      replace hm:=BG hm;obtain⟨q6,rfl,hm⟩:=hm
      replace hm:=Ae hm;obtain⟨h18,hm⟩:=hm
      replace hm:=Ae hm;obtain⟨h19,hm⟩:=hm
      replace hm:=Ae hm;obtain⟨h20,hm⟩:=hm
      replace hm:=Ae hm;obtain⟨h21,hm⟩:=hm
      refine .reg (eD (keep (hT 5 [(oC [zI z5,(Sl.v 2 s4)]),oC q4,oC q5,(oC [zI z6,zI z7])]) (bb (Nat.ble (0+14) (len q5)) (some (.agg ⟨(Aq 14 (Am 0 q5))⟩)) none)) (AX h16) (eC 1 (bb (Au closed2 [(.agg ⟨(Aq 14 (Am 0 q5))⟩),(.agg ⟨[zI z6,zI z7]⟩)]) (oo (pu 57 [(.agg ⟨(Aq 14 (Am 0 q5))⟩),(.agg ⟨[zI z6,zI z7]⟩)]) none fun v=>some (v,(hT 5 [(oC [zI z5,(Sl.v 2 s4)]),oC q4,oC q5,(oC [zI z6,zI z7])]))) (oo (CG (RG (hT 5 [(oC [zI z5,(Sl.v 2 s4)]),oC q4,oC q5,(oC [zI z6,zI z7])])) [(.agg ⟨(Aq 14 (Am 0 q5))⟩),(.agg ⟨[zI z6,zI z7]⟩)]) none fun l1=>oo (pu 57 l1) none fun v=>bb (RH v) (some (v,(hT 5 [(oC [zI z5,(Sl.v 2 s4)]),oC q4,oC q5,(oC [zI z6,zI z7])]))) none)) (SL h19 h17) (eD (done (bb (Nat.beq (len q6) 14) (bb (an (Nat.ble (0+len q6) (len q5)) (Au D6 q6)) (some (hT 5 [(oC [zI z5,(Sl.v 2 s4)]),oC q4,(oC (BM q6 0 q5)),(oC [zI z6,zI z7])])) none) none) undef) (bH h20 h21) (eE)))) ?_
      replace hm:=Ae hm;obtain⟨h22,hm⟩:=hm
      replace hm:=Ae hm;obtain⟨h23,hm⟩:=hm
      refine .ghs (fr 53 [(1,pt 1 0),(6,sc 2 0 1 n2 c4),(7,(pt 3 0)),(26,(Sl.v 2 s3)),(27,zI z3),(28,zI z4)]) (hT 4 [(oC [zI z5,(Sl.v 2 s4)]),oC q4,(oC (BM q6 0 q5))]) (.k [2,3] [false] [.tmp 1 false,.tmp 6 false,.tmp 7 false] [1,6,7,26,27,28] ⟨Bq h22,Bq h23,trivial⟩) ?_
      refine .rK ?_
      exact⟨(n2,c4,s3,z3,(Aj .i64 (Int.add z4 (1:Int))),z5,s4,q4,(BM q6 0 q5)),hm,(.k [2,3] [false] [.tmp 1 false,.tmp 6 false,.tmp 7 false] [1,6,7,26,27,28] ⟨Bq h22,Bq h23,trivial⟩)⟩
     ·refine .then ?_
      replace hm:=Ae hm;obtain⟨h24,hm⟩:=hm
      replace hm:=Ab hm;obtain⟨k2,h25,hm⟩:=hm
      replace hm:=Ae hm;obtain⟨h26,hm⟩:=hm
      replace hm:=Ae hm;obtain⟨h27,hm⟩:=hm
      replace hm:=Ab hm;obtain⟨v7,h28,hm⟩:=hm
      replace hm:=BG hm;obtain⟨q7,rfl,hm⟩:=hm
      replace hm:=Ae hm;obtain⟨h29,hm⟩:=hm
      replace hm:=Ae hm;obtain⟨h30,hm⟩:=hm
      replace hm:=I9 hm;obtain⟨x4,h31,hm⟩:=hm
      replace hm:=Ae hm;obtain⟨h32,hm⟩:=hm
      refine .reg (eD (keep (hT 5 [(oC [zI z2,(Sl.v 2 s2)]),oC q2,oC q3,(oC [zI x2,zI x3])]) (bb (Nat.ble (0+14) (len q3)) (some (.agg ⟨(Aq 14 (Am 0 q3))⟩)) none)) (AX h24) (eC 3 (some ((zI (Aj .i64 (Int.add (Int.ofNat k1) (1:Int)))),(hT 5 [(oC [zI z2,(Sl.v 2 s2)]),oC q2,oC q3,(oC [zI x2,zI x3])]))) (show _=some ((zI (Int.ofNat k2)),_) from (by rw[AR h25])) (eD (keep (hT 5 [(oC [zI z2,(Sl.v 2 s2)]),oC q2,oC q3,(oC [zI x2,zI x3])]) (Ns kY ⟨2,(Sl.n s2),(Sl.fl s2),(Sl.cs s2)⟩ (some (zI (Int.ofNat k2))) none none)) (ME (c1:=true) (c2:=(Nat.ble k2 (Sl.n s2))) (l:=k2) (h:=(Sl.n s2)) h26 (by kernel_rfl) (by kernel_rfl) rfl (by kernel_rfl) h27) (eC 2 (bb (Au closed2 [(.agg ⟨(Aq 14 (Am 0 q3))⟩),(Sl.v 2 (Sl.mk ((Sl.n s2) - k2) (bb (an (Nat.beq (Sl.n s2) (Sl.n s2)) (Dp false (Nat.beq (Sl.fl s2) 1))) 1 0) (Aq (((Sl.n s2) - k2)*2) (Am (k2*2) (Sl.cs s2)))))]) (oo (pu 60 [(.agg ⟨(Aq 14 (Am 0 q3))⟩),(Sl.v 2 (Sl.mk ((Sl.n s2) - k2) (bb (an (Nat.beq (Sl.n s2) (Sl.n s2)) (Dp false (Nat.beq (Sl.fl s2) 1))) 1 0) (Aq (((Sl.n s2) - k2)*2) (Am (k2*2) (Sl.cs s2)))))]) none fun v=>some (v,(hT 5 [(oC [zI z2,(Sl.v 2 s2)]),oC q2,oC q3,(oC [zI x2,zI x3])]))) (oo (CG (RG (hT 5 [(oC [zI z2,(Sl.v 2 s2)]),oC q2,oC q3,(oC [zI x2,zI x3])])) [(.agg ⟨(Aq 14 (Am 0 q3))⟩),(Sl.v 2 (Sl.mk ((Sl.n s2) - k2) (bb (an (Nat.beq (Sl.n s2) (Sl.n s2)) (Dp false (Nat.beq (Sl.fl s2) 1))) 1 0) (Aq (((Sl.n s2) - k2)*2) (Am (k2*2) (Sl.cs s2)))))]) none fun l1=>oo (pu 60 l1) none fun v=>bb (RH v) (some (v,(hT 5 [(oC [zI z2,(Sl.v 2 s2)]),oC q2,oC q3,(oC [zI x2,zI x3])]))) none)) (SL h30 h28) (eD (bb (Au closed2 [(.agg ⟨q7⟩),zI z2]) (oo (pu 61 [(.agg ⟨q7⟩),zI z2]) none fun v=>some (v,(hT 5 [(oC [zI z2,(Sl.v 2 s2)]),oC q2,oC q3,(oC [zI x2,zI x3])]))) (oo (CG (RG (hT 5 [(oC [zI z2,(Sl.v 2 s2)]),oC q2,oC q3,(oC [zI x2,zI x3])])) [(.agg ⟨q7⟩),zI z2]) none fun l1=>oo (pu 61 l1) none fun v=>bb (RH v) (some (v,(hT 5 [(oC [zI z2,(Sl.v 2 s2)]),oC q2,oC q3,(oC [zI x2,zI x3])]))) none)) (SL h32 h31) (eE)))))) ?_
      refine .ghs (fr 53 [(1,pt 1 0),(6,sc 2 0 1 n1 c3),(7,(pt 3 0)),(8,(zI (Int.ofNat k1))),(9,(pt 4 0)),(26,(Sl.v 2 s1)),(27,zI z0),(28,(zI (Int.ofNat k1))),(43,(zB (nt (AY x4 (0:Int)))))]) (hT 5 [(oC [zI z2,(Sl.v 2 s2)]),oC q2,oC q3,(oC [zI x2,zI x3])]) (.k [2,3] [false] [.tmp 1 false,.tmp 6 false,.tmp 7 false,.tmp 9 false] [1,6,7,8,9,26,27,28,43] ⟨Bq h8,Bq h9,trivial⟩) ?_
      replace hm:=Ag hm;rcases hm with⟨h33,hm⟩ | ⟨h33,hm⟩
      ·refine DL (nt (AY x4 (0:Int))) h33 ?_
       replace hm:=Ae hm;obtain⟨h34,hm⟩:=hm
       refine .reg (eC 3 (Oc 1 8 n1 c3 1 2 q2 [(zI (Int.ofNat k1))] [] (hT 6 [(oC [zI z2,(Sl.v 2 s2)]),oC q2,oC q3,(oC [zI x2,zI x3]),(oC [(zI (Int.ofNat k1))])])) (I1 h34) (eE)) ?_
       replace hm:=Ae hm;obtain⟨h35,hm⟩:=hm
       exact⟨((n1+1),(d2 (n1+1)),s1,z0,(Int.ofNat k1),z2,s2,(Br (Am 0 q2) [(zI (Int.ofNat k1))]),q3,x2,x3),hm,(.k [6,3] [false] [.tmp 1 false,.tmp 6 false,.tmp 7 false,.tmp 9 false] [1,6,7,9,26,27,28] ⟨Bq h35,Bq h9,trivial⟩)⟩
      ·refine DT (nt (AY x4 (0:Int))) h33 ?_
       refine .skip ?_
       exact⟨(n1,c3,s1,z0,(Int.ofNat k1),z2,s2,q2,q3,x2,x3),hm,(.k [2,3] [false] [.tmp 1 false,.tmp 6 false,.tmp 7 false,.tmp 9 false] [1,6,7,9,26,27,28] ⟨Bq h8,Bq h9,trivial⟩)⟩
    ·refine DT (AY z1 z0) h10 ?_
     refine .exit ?_
     exact⟨(n1,c3,q2),hm,(.k [2] [false] [.tmp 6 false] [6] ⟨Bq h8,trivial⟩)⟩
def Oy (pu:Af) (n:Nat) (z0 z1:Int) (n0 c0:Nat) (q0:LV):OV:=
 (bb (Au Ah q0) (bb (an (Nat.ble (0+n0*2) (len q0)) (Au Ah (Aq (n0*2) (Am 0 q0)))) (some (.agg ⟨[.int .i64 z1,(Sl.v 2 (Sl.mk n0 0 (Aq (n0*2) (Am 0 q0))))]⟩)) none) none)
def Oz (pu:Af) (n:Nat) (ih0:Int→Sl→Int→Int→Int→Int→Nat→Nat→LV→OV) (z0:Int) (s0:Sl) (z1 z2:Int) (b0:Bool) (z3 z4:Int) (n0 c0:Nat) (z5 z6:Int) (q0:LV):OV:=
 (bb b0 (bb (Au Ah q0) (Oy pu n z3 z4 n0 c0 q0) none) (bb (Au Ah q0) (bb (nt (Bd (Aj .i64 (Int.sub z4 (1:Int))) (0:Int))) (bb (nt (Bd (Aj .i64 (Int.sub (Aj .i64 (Int.sub z4 (1:Int))) (Int.tmod (Aj .i64 z5) (Aj .i64 (Int.sub z4 (1:Int)))))) (0:Int))) (bb (GV 2 16 n0 c0 1 q0) (bb (Au Ah (Br (Am 0 q0) [(.int .i64 (Int.tmod (Aj .i64 z5) (Aj .i64 (Int.sub z4 (1:Int))))),(.int .i64 (Aj .i64 (Int.add (Aj .i64 (Int.add (Int.tmod (Aj .i64 z5) (Aj .i64 (Int.sub z4 (1:Int)))) (1:Int))) (Int.tmod (Aj .i64 z6) (Aj .i64 (Int.sub (Aj .i64 (Int.sub z4 (1:Int))) (Int.tmod (Aj .i64 z5) (Aj .i64 (Int.sub z4 (1:Int))))))))))])) (ih0 z0 s0 z1 (Aj .i64 (Int.add z2 (1:Int))) z3 z4 (n0+1) (2*(n0+1)+bb false 1 0) (Br (Am 0 q0) [(.int .i64 (Int.tmod (Aj .i64 z5) (Aj .i64 (Int.sub z4 (1:Int))))),(.int .i64 (Aj .i64 (Int.add (Aj .i64 (Int.add (Int.tmod (Aj .i64 z5) (Aj .i64 (Int.sub z4 (1:Int)))) (1:Int))) (Int.tmod (Aj .i64 z6) (Aj .i64 (Int.sub (Aj .i64 (Int.sub z4 (1:Int))) (Int.tmod (Aj .i64 z5) (Aj .i64 (Int.sub z4 (1:Int))))))))))])) none) none) none) none) none))
def QR (pu:Af) (n:Nat) (ih0:Int→Sl→Int→Int→Int→Int→Nat→Nat→LV→OV) (z0:Int) (s0:Sl) (z1 z2 z3 z4:Int) (n0 c0:Nat) (q0:LV):OV:=
 (bb (Au Ah q0) (bb (AY z2 z1) (oo (EA z2) none fun k1=>(bb (an (Nat.blt k1 (Sl.n s0)) true) (bb (Nat.ble ((k1*2)+2) (len (Sl.cs s0))) (oo (AL (Sl.cs s0) (k1*2)) none fun v0=>(oo (Bi .u8 v0) none fun x0=>(oo (AL (Sl.cs s0) ((k1*2)+1)) none fun v1=>(oo (Bi .u8 v1) none fun x1=>(bb (nt (AY (Int.ofNat k1) z0)) (Oz pu n ih0 z0 s0 z1 (Int.ofNat k1) true z3 z4 n0 c0 x0 x1 q0) (Oz pu n ih0 z0 s0 z1 (Int.ofNat k1) (AY z4 (2:Int)) z3 z4 n0 c0 x0 x1 q0)))))) none) none)) (Oy pu n z3 z4 n0 c0 q0)) none)
def OA (pu:Af) (n w:Nat):Int→Sl→Int→Int→Int→Int→Nat→Nat→LV→OV:=
 Nat.rec (motive:=fun _=>Int→Sl→Int→Int→Int→Int→Nat→Nat→LV→OV) (fun _ _ _ _ _ _ _ _ _=>none) (fun _ ih0=>QR pu n ih0) w
def ML (pu:Af) (n:Nat) (z0 z1:Int) (s0:Sl) (b0:Bool) (z2 z3:Int) (n0 c0:Nat) (q0:LV):OV:=
 (bb (Au Ah q0) (OA pu n n z0 s0 (Int.ofNat (Sl.n s0)) (0:Int) z2 z3 n0 c0 q0) none)
def V3 (pu:Af) (n:Nat) (ih0:Int→Int→Int→Sl→Bool→Int→Int→Nat→Nat→LV→OV) (z0 z1 z2:Int) (s0:Sl) (b0:Bool) (z3 z4:Int) (n0 c0:Nat) (q0:LV):OV:=
 (bb (Au Ah q0) (ih0 z0 (Aj .i64 (Int.sub z1 (1:Int))) z2 s0 b0 z3 z4 n0 c0 q0) none)
def V4 (pu:Af) (n:Nat) (ih0:Int→Int→Int→Sl→Bool→Int→Int→Nat→Nat→LV→OV) (ih1:Int→Int→Int→Int→Sl→Bool→Int→Int→Nat→Nat→LV→OV) (z0 z1 z2 z3:Int) (s0:Sl) (b0:Bool) (z4 z5:Int) (n0 c0:Nat) (q0:LV):OV:=
 (bb (Au Ah q0) (bb (AY (Aj .i64 (Int.add z2 (1:Int))) z1) (bb (GV 2 16 n0 c0 1 q0) (bb (Au Ah (Br (Am 0 q0) [.int .i64 z2,(.int .i64 (Aj .i64 (Int.add z2 (1:Int))))])) (ih1 z0 z1 (Aj .i64 (Int.add z2 (1:Int))) z3 s0 b0 z4 z5 (n0+1) (2*(n0+1)+bb false 1 0) (Br (Am 0 q0) [.int .i64 z2,(.int .i64 (Aj .i64 (Int.add z2 (1:Int))))])) none) none) (V3 pu n ih0 z0 z1 z3 s0 b0 z4 z5 n0 c0 q0)) none)
def V5 (pu:Af) (n:Nat) (ih0:Int→Int→Int→Sl→Bool→Int→Int→Nat→Nat→LV→OV) (w:Nat):Int→Int→Int→Int→Sl→Bool→Int→Int→Nat→Nat→LV→OV:=
 Nat.rec (motive:=fun _=>Int→Int→Int→Int→Sl→Bool→Int→Int→Nat→Nat→LV→OV) (fun _ _ _ _ _ _ _ _ _ _ _=>none) (fun _ ih1=>V4 pu n ih0 ih1) w
def V6 (pu:Af) (n:Nat) (ih0:Int→Int→Int→Sl→Bool→Int→Int→Nat→Nat→LV→OV) (z0 z1 z2:Int) (s0:Sl) (b0:Bool) (z3 z4:Int) (n0 c0:Nat) (q0:LV):OV:=
 (bb (Au Ah q0) (bb (AY (1:Int) z1) (V5 pu n ih0 n z0 z1 (0:Int) z2 s0 b0 z3 z4 n0 c0 q0) (ML pu n z0 z2 s0 b0 z3 z4 n0 c0 q0)) none)
def MM (pu:Af) (n w:Nat):Int→Int→Int→Sl→Bool→Int→Int→Nat→Nat→LV→OV:=
 Nat.rec (motive:=fun _=>Int→Int→Int→Sl→Bool→Int→Int→Nat→Nat→LV→OV) (fun _ _ _ _ _ _ _ _ _ _=>none) (fun _ ih0=>V6 pu n ih0) w
def Xd (pu:Af) (n:Nat) (x0:Int) (s0:Sl) (b0:Bool) (x1:Int):OV:=
 (bb b0 (MM pu n n x1 (Aj .i64 (Int.add (1:Int) (Int.tmod (Aj .i64 x0) (5:Int)))) x0 s0 b0 (0:Int) (Aj .i64 (Int.add (1:Int) (Int.tmod (Aj .i64 x0) (5:Int)))) 0 0 ([]:LV)) (ML pu n x1 x0 s0 b0 (0:Int) (Aj .i64 (Int.add (1:Int) (Int.tmod (Aj .i64 x0) (5:Int)))) 0 0 ([]:LV)))
def m26 (pu:Af) (n:Nat) (args:LV):OV:=
 (ll args none fun a0 args=>(ll args none fun a1 args=>(ll args (oo (Bt a0) none fun l0=>(ll l0 none fun v0 l0=>(ll l0 none fun v1 l0=>(ll l0 none fun v2 l0=>(ll l0 (oo (Bi .u8 v0) none fun x0=>(oo (Bj 2 v1) none fun s0=>(oo (Bf v2) none fun b0=>(oo (Bi .i64 a1) none fun x1=>(Xd pu n x0 s0 b0 x1))))) fun _ _=>none))))) fun _ _=>none)))
theorem xB (pu:Af) (n:Nat) (z0 z1:Int) (n0 c0:Nat) (q0:LV) {v:Value} (hm:Oy pu n z0 z1 n0 c0 q0=some v):BN tt (Bb tabs FM pu (inl pu)) 1 UV (fr 84 [(4,pt 1 0),(5,(pt 2 0))]) (hT 4 [(oC [zI z0,(.slice none 0 0)]),(oC [zI z1,sc 3 0 2 n0 c0]),oC q0]) (Fin tt 1 [.cell 4 24] v):=by
 unfold Oy at hm
 refine .then (.rK ?_)
 replace hm:=Ae hm;obtain⟨h0,hm⟩:=hm
 refine .ghs (fr 84 [(4,pt 1 0)]) (hT 3 [(oC [zI z1,sc 2 0 2 n0 c0]),oC q0]) (.k [3] [false] [.tmp 4 true,.cell 1 1 false] [4] ⟨Bq h0,trivial⟩) ?_
 refine .ret ?_
 replace hm:=Ae hm;obtain⟨h1,hm⟩:=hm
 exact Uc (.agg ⟨[zI z1,sc 2 0 2 n0 c0]⟩) (.agg ⟨[zI z1,(Sl.v 2 (Sl.mk n0 0 (Aq (n0*2) (Am 0 q0))))]⟩) (by kernel_rfl) (FU.agg (.cons (FU.refl _ _ _) (.cons (FU.frz (v':=(Sl.v 2 (Sl.mk n0 0 (Aq (n0*2) (Am 0 q0))))) (H1:=(hT 3 [(oC [zI z1,sc 2 0 2 n0 c0]),.dead])) 1 false (an (Nat.ble (0+n0*2) (len q0)) (Au Ah (Aq (n0*2) (Am 0 q0)))) (by kernel_rfl) (by kernel_rfl) h1) (Mr.nil _)))) (by kernel_rfl) hm
theorem xC (pu:Af) (n:Nat) (z0 z1:Int) (s0:Sl) (b0:Bool) (z2 z3:Int) (n0 c0:Nat) (q0:LV) {v:Value} (hm:ML pu n z0 z1 s0 b0 z2 z3 n0 c0 q0=some v):BN tt (Bb tabs FM pu (inl pu)) 1 UW (fr 84 [(1,zI z0),(2,pt 1 0),(4,(pt 2 0)),(5,(pt 3 0))]) (hT 5 [(oC [(zY z1),(Sl.v 2 s0),zB b0]),(oC [zI z2,(.slice none 0 0)]),(oC [zI z3,sc 4 0 2 n0 c0]),oC q0]) (Fin tt 1 [.cell 4 24] v):=by
 unfold ML at hm
 refine .join (v:=v) (fun y:Int×Int×Nat×Nat×LV=>((fr 84 [(4,pt 1 0),(5,(pt 2 0))]),(hT 4 [(oC [(zI y.1),(.slice none 0 0)]),(oC [(zI y.2.1),(sc 3 0 2 y.2.2.1 y.2.2.2.1)]),(oC y.2.2.2.2)]))) (fun y=>Oy pu n y.1 y.2.1 y.2.2.1 y.2.2.2.1 y.2.2.2.2) ?_ ?_
 ·rintro⟨z4,z5,n1,c1,q1⟩ hm
  exact xB pu n z4 z5 n1 c1 q1 hm
 ·refine .then (.rK ?_)
  replace hm:=Ae hm;obtain⟨h0,hm⟩:=hm
  refine .ghs (fr 84 [(1,zI z0),(4,pt 1 0),(5,(pt 2 0)),(41,(Sl.v 2 s0)),(42,(zI (Int.ofNat (Sl.n s0)))),(43,(zI (0:Int)))]) (hT 4 [(oC [zI z2,(.slice none 0 0)]),(oC [zI z3,sc 3 0 2 n0 c0]),oC q0]) (.k [4] [false] [.tmp 4 false,.tmp 5 true,.cell 2 1 false] [1,4,5,41,42,43] ⟨Bq h0,trivial⟩) ?_
  refine .block (.loopM (v:=v) (fun y:Int×Sl×Int×Int×Int×Int×Nat×Nat×LV=>((fr 84 [(1,(zI y.1)),(4,pt 1 0),(5,(pt 2 0)),(41,(Sl.v 2 y.2.1)),(42,(zI y.2.2.1)),(43,(zI y.2.2.2.1))]),(hT 4 [(oC [(zI y.2.2.2.2.1),(.slice none 0 0)]),(oC [(zI y.2.2.2.2.2.1),(sc 3 0 2 y.2.2.2.2.2.2.1 y.2.2.2.2.2.2.2.1)]),(oC y.2.2.2.2.2.2.2.2)]))) (fun w y=>OA pu n w y.1 y.2.1 y.2.2.1 y.2.2.2.1 y.2.2.2.2.1 y.2.2.2.2.2.1 y.2.2.2.2.2.2.1 y.2.2.2.2.2.2.2.1 y.2.2.2.2.2.2.2.2) n ⟨(z0,s0,(Int.ofNat (Sl.n s0)),(0:Int),z2,z3,n0,c0,q0),hm,(.k [3] [false] [.tmp 4 false,.tmp 5 true,.cell 2 1 false] [1,4,5,41,42,43] ⟨Bq h0,trivial⟩)⟩ (fun _=>rfl) ?_)
  rintro w0 ⟨z6,s1,z7,z8,z9,z10,n2,c2,q2⟩ hm
  replace hm:QR pu n (OA pu n w0) z6 s1 z7 z8 z9 z10 n2 c2 q2=some v:=hm
  unfold QR at hm
  refine .then (.rK ?_)
  replace hm:=Ae hm;obtain⟨h1,hm⟩:=hm
  refine .ghs (fr 84 [(1,zI z6),(4,pt 1 0),(5,(pt 2 0)),(41,(Sl.v 2 s1)),(42,zI z7),(43,zI z8),(44,(zB (AY z8 z7)))]) (hT 4 [(oC [zI z9,(.slice none 0 0)]),(oC [zI z10,sc 3 0 2 n2 c2]),oC q2]) (.k [3] [false] [.tmp 4 false,.tmp 5 true,.cell 2 1 false] [1,4,5,41,42,43,44] ⟨Bq h1,trivial⟩) ?_
  refine .then ?_
  replace hm:=Ag hm;rcases hm with⟨h2,hm⟩ | ⟨h2,hm⟩
  ·refine DL (AY z8 z7) h2 ?_
   refine .skip (.ghs (fr 84 [(1,zI z6),(4,pt 1 0),(5,(pt 2 0)),(41,(Sl.v 2 s1)),(42,zI z7),(43,zI z8)]) (hT 4 [(oC [zI z9,(.slice none 0 0)]),(oC [zI z10,sc 3 0 2 n2 c2]),oC q2]) (.k [3] [false] [.tmp 4 false,.tmp 5 true,.cell 2 1 false] [1,4,5,41,42,43] ⟨Bq h1,trivial⟩) ?_)
   refine .then (.block (.then ?_))
   replace hm:=Ab hm;obtain⟨k1,h3,hm⟩:=hm
   obtain rfl:=AR h3
   replace hm:=Ae hm;obtain⟨h4,hm⟩:=hm
   replace hm:=Ae hm;obtain⟨h5,hm⟩:=hm
   replace hm:=I9 hm;obtain⟨x0,h6,hm⟩:=hm
   replace hm:=I9 hm;obtain⟨x1,h7,hm⟩:=hm
   refine .reg (eC 1 (keep (hT 4 [(oC [zI z9,(.slice none 0 0)]),(oC [zI z10,sc 3 0 2 n2 c2]),oC q2]) (bb (an (Nat.blt k1 (Sl.n s1)) true) (some (Cv (k1*2) (Sl.cs s1))) none)) (AX h4) (eD (keep (hT 4 [(oC [zI z9,(.slice none 0 0)]),(oC [zI z10,sc 3 0 2 n2 c2]),oC q2]) (bb (Nat.ble ((k1*2)+2) (len (Sl.cs s1))) (some (.agg ⟨Aq 2 (Am (k1*2) (Sl.cs s1))⟩)) none)) (Pd h5 (Ca h6 (Ca h7 rfl))) (eE))) ?_
   refine .ghs (fr 84 [(1,zI z6),(4,pt 1 0),(5,(pt 2 0)),(8,(zI (Int.ofNat k1))),(9,(pt 3 0)),(41,(Sl.v 2 s1)),(42,zI z7),(43,(zI (Int.ofNat k1)))]) (hT 5 [(oC [zI z9,(.slice none 0 0)]),(oC [zI z10,sc 4 0 2 n2 c2]),(oC [(zY x0),(zY x1)]),oC q2]) (.k [3] [false] [.tmp 4 false,.tmp 5 true,.tmp 9 false,.cell 2 1 false] [1,4,5,8,9,41,42,43] ⟨Bq h1,trivial⟩) ?_
   refine .then (.join (v:=v) (fun y:Int×Sl×Int×Int×Bool×Int×Int×Nat×Nat×Int×Int×LV=>((fr 84 [(1,(zI y.1)),(4,pt 1 0),(5,(pt 2 0)),(9,(pt 3 0)),(41,(Sl.v 2 y.2.1)),(42,(zI y.2.2.1)),(43,(zI y.2.2.2.1)),(55,(zB y.2.2.2.2.1))]),(hT 5 [(oC [(zI y.2.2.2.2.2.1),(.slice none 0 0)]),(oC [(zI y.2.2.2.2.2.2.1),(sc 4 0 2 y.2.2.2.2.2.2.2.1 y.2.2.2.2.2.2.2.2.1)]),(oC [(zY y.2.2.2.2.2.2.2.2.2.1),(zY y.2.2.2.2.2.2.2.2.2.2.1)]),(oC y.2.2.2.2.2.2.2.2.2.2.2)]))) (fun y=>Oz pu n (OA pu n w0) y.1 y.2.1 y.2.2.1 y.2.2.2.1 y.2.2.2.2.1 y.2.2.2.2.2.1 y.2.2.2.2.2.2.1 y.2.2.2.2.2.2.2.1 y.2.2.2.2.2.2.2.2.1 y.2.2.2.2.2.2.2.2.2.1 y.2.2.2.2.2.2.2.2.2.2.1 y.2.2.2.2.2.2.2.2.2.2.2) ?_ ?_)
   ·rintro⟨z11,s2,z12,z13,b1,z14,z15,n3,c3,z16,z17,q3⟩ hm
    unfold Oz at hm
    replace hm:=Ag hm;rcases hm with⟨h8,hm⟩ | ⟨h8,hm⟩
    ·refine .ifT b1 (by kernel_rfl) h8 ?_
     refine .exit ?_
     replace hm:=Ae hm;obtain⟨h9,hm⟩:=hm
     exact⟨(z14,z15,n3,c3,q3),hm,(.k [4] [false] [.tmp 4 false,.tmp 5 true,.cell 2 1 false] [4,5] ⟨Bq h9,trivial⟩)⟩
    ·refine .ifF b1 (by kernel_rfl) h8 ?_
     refine .skip ?_
     replace hm:=Ae hm;obtain⟨h10,hm⟩:=hm
     refine .ghs (fr 84 [(1,zI z11),(4,pt 1 0),(5,(pt 2 0)),(9,(pt 3 0)),(41,(Sl.v 2 s2)),(42,zI z12),(43,zI z13)]) (hT 5 [(oC [zI z14,(.slice none 0 0)]),(oC [zI z15,sc 4 0 2 n3 c3]),(oC [(zY z16),(zY z17)]),oC q3]) (.k [4] [false] [.tmp 4 false,.tmp 5 true,.tmp 9 false,.cell 2 1 false] [1,4,5,9,41,42,43] ⟨Bq h10,trivial⟩) ?_
     refine .then ?_
     replace hm:=Ae hm;obtain⟨h11,hm⟩:=hm
     refine .reg (eC 6 (keep (hT 5 [(oC [zI z14,(.slice none 0 0)]),(oC [zI z15,sc 4 0 2 n3 c3]),(oC [(zY z16),(zY z17)]),oC q3]) (bb (Bd (Aj .i64 (Int.sub z15 (1:Int))) (0:Int)) none (some (zI (Int.tmod (Aj .i64 z16) (Aj .i64 (Int.sub z15 (1:Int)))))))) (XH h11) (eE)) ?_
     refine .ghs (fr 84 [(1,zI z11),(4,pt 1 0),(5,(pt 2 0)),(9,(pt 3 0)),(10,(zI (Int.tmod (Aj .i64 z16) (Aj .i64 (Int.sub z15 (1:Int)))))),(41,(Sl.v 2 s2)),(42,zI z12),(43,zI z13)]) (hT 5 [(oC [zI z14,(.slice none 0 0)]),(oC [zI z15,sc 4 0 2 n3 c3]),(oC [(zY z16),(zY z17)]),oC q3]) (.k [4] [false] [.tmp 4 false,.tmp 5 true,.tmp 9 false,.cell 2 1 false] [1,4,5,9,10,41,42,43] ⟨Bq h10,trivial⟩) ?_
     replace hm:=Ae hm;obtain⟨h12,hm⟩:=hm
     replace hm:=Ae hm;obtain⟨h13,hm⟩:=hm
     refine .reg (eC 13 (keep (hT 5 [(oC [zI z14,(.slice none 0 0)]),(oC [zI z15,sc 4 0 2 n3 c3]),(oC [(zY z16),(zY z17)]),oC q3]) (bb (Bd (Aj .i64 (Int.sub (Aj .i64 (Int.sub z15 (1:Int))) (Int.tmod (Aj .i64 z16) (Aj .i64 (Int.sub z15 (1:Int)))))) (0:Int)) none (some (zI (Int.tmod (Aj .i64 z17) (Aj .i64 (Int.sub (Aj .i64 (Int.sub z15 (1:Int))) (Int.tmod (Aj .i64 z16) (Aj .i64 (Int.sub z15 (1:Int))))))))))) (XH h12) (eC 3 (Oc 2 16 n3 c3 1 4 q3 [(zI (Int.tmod (Aj .i64 z16) (Aj .i64 (Int.sub z15 (1:Int))))),(zI (Aj .i64 (Int.add (Aj .i64 (Int.add (Int.tmod (Aj .i64 z16) (Aj .i64 (Int.sub z15 (1:Int)))) (1:Int))) (Int.tmod (Aj .i64 z17) (Aj .i64 (Int.sub (Aj .i64 (Int.sub z15 (1:Int))) (Int.tmod (Aj .i64 z16) (Aj .i64 (Int.sub z15 (1:Int))))))))))] [] (hT 6 [(oC [zI z14,(.slice none 0 0)]),(oC [zI z15,sc 4 0 2 n3 c3]),(oC [(zY z16),(zY z17)]),oC q3,(oC [(zI (Int.tmod (Aj .i64 z16) (Aj .i64 (Int.sub z15 (1:Int))))),(zI (Aj .i64 (Int.add (Aj .i64 (Int.add (Int.tmod (Aj .i64 z16) (Aj .i64 (Int.sub z15 (1:Int)))) (1:Int))) (Int.tmod (Aj .i64 z17) (Aj .i64 (Int.sub (Aj .i64 (Int.sub z15 (1:Int))) (Int.tmod (Aj .i64 z16) (Aj .i64 (Int.sub z15 (1:Int))))))))))])])) (I1 h13) (eE))) ?_
     replace hm:=Ae hm;obtain⟨h14,hm⟩:=hm
     refine .ghs (fr 84 [(1,zI z11),(4,pt 1 0),(5,(pt 2 0)),(41,(Sl.v 2 s2)),(42,zI z12),(43,zI z13)]) (hT 4 [(oC [zI z14,(.slice none 0 0)]),(oC [zI z15,(sc 3 0 2 (n3+1) (d2 (n3+1)))]),(oC (Br (Am 0 q3) [(zI (Int.tmod (Aj .i64 z16) (Aj .i64 (Int.sub z15 (1:Int))))),(zI (Aj .i64 (Int.add (Aj .i64 (Int.add (Int.tmod (Aj .i64 z16) (Aj .i64 (Int.sub z15 (1:Int)))) (1:Int))) (Int.tmod (Aj .i64 z17) (Aj .i64 (Int.sub (Aj .i64 (Int.sub z15 (1:Int))) (Int.tmod (Aj .i64 z16) (Aj .i64 (Int.sub z15 (1:Int))))))))))]))]) (.k [6] [false] [.tmp 4 false,.tmp 5 true,.cell 2 1 false] [1,4,5,41,42,43] ⟨Bq h14,trivial⟩) ?_
     refine .rK ?_
     exact⟨(z11,s2,z12,(Aj .i64 (Int.add z13 (1:Int))),z14,z15,(n3+1),(d2 (n3+1)),(Br (Am 0 q3) [(zI (Int.tmod (Aj .i64 z16) (Aj .i64 (Int.sub z15 (1:Int))))),(zI (Aj .i64 (Int.add (Aj .i64 (Int.add (Int.tmod (Aj .i64 z16) (Aj .i64 (Int.sub z15 (1:Int)))) (1:Int))) (Int.tmod (Aj .i64 z17) (Aj .i64 (Int.sub (Aj .i64 (Int.sub z15 (1:Int))) (Int.tmod (Aj .i64 z16) (Aj .i64 (Int.sub z15 (1:Int))))))))))])),hm,(.k [3] [false] [.tmp 4 false,.tmp 5 true,.cell 2 1 false] [1,4,5,41,42,43] ⟨Bq h14,trivial⟩)⟩
   ·replace hm:=Ag hm;rcases hm with⟨h15,hm⟩ | ⟨h15,hm⟩
    ·refine .reg (eC 2 (some ((zB (nt (AY (Int.ofNat k1) z6))),(hT 5 [(oC [zI z9,(.slice none 0 0)]),(oC [zI z10,sc 4 0 2 n2 c2]),(oC [(zY x0),(zY x1)]),oC q2]))) (show _=some ((zB true),_) from (by rw[show (nt (AY (Int.ofNat k1) z6))=true from h15])) (eE)) ?_
     exact⟨(z6,s1,z7,(Int.ofNat k1),true,z9,z10,n2,c2,x0,x1,q2),hm,(.k [4] [false] [.tmp 4 false,.tmp 5 true,.tmp 9 false,.cell 2 1 false] [1,4,5,9,41,42,43,55] ⟨Bq h1,trivial⟩)⟩
    ·refine .reg (eC 2 (some ((zB (nt (AY (Int.ofNat k1) z6))),(hT 5 [(oC [zI z9,(.slice none 0 0)]),(oC [zI z10,sc 4 0 2 n2 c2]),(oC [(zY x0),(zY x1)]),oC q2]))) (show _=some ((zB false),_) from (by rw[show (nt (AY (Int.ofNat k1) z6))=false from h15])) (eE)) ?_
     exact⟨(z6,s1,z7,(Int.ofNat k1),(AY z10 (2:Int)),z9,z10,n2,c2,x0,x1,q2),hm,(.k [4] [false] [.tmp 4 false,.tmp 5 true,.tmp 9 false,.cell 2 1 false] [1,4,5,9,41,42,43,55] ⟨Bq h1,trivial⟩)⟩
  ·refine DT (AY z8 z7) h2 ?_
   refine .exit ?_
   exact⟨(z9,z10,n2,c2,q2),hm,(.k [3] [false] [.tmp 4 false,.tmp 5 true,.cell 2 1 false] [4,5] ⟨Bq h1,trivial⟩)⟩
theorem r26 {call:A8} (pu:Af) (n:Nat) (hcall:call=Bb tabs FM pu (inl pu)) {args:LV} {v:Value} (hm:m26 pu n args=some v) (_:∀ x∈args,closed2 x=true):args.length≤84∧BN tt call 1 PM (Fr.made 84 args) (Ao tabs) (Fin tt 1 [.cell 4 24] v):=by
 subst hcall
 unfold m26 at hm
 replace hm:=Ad hm;obtain⟨a0,args_0,rfl,hm⟩:=hm
 replace hm:=Ad hm;obtain⟨a1,args_1,rfl,hm⟩:=hm
 replace hm:=AC hm;obtain⟨rfl,hm⟩:=hm
 replace hm:=BG hm;obtain⟨l0,rfl,hm⟩:=hm
 replace hm:=Ad hm;obtain⟨v0,l5504_0,rfl,hm⟩:=hm
 replace hm:=Ad hm;obtain⟨v1,l5504_1,rfl,hm⟩:=hm
 replace hm:=Ad hm;obtain⟨v2,l5504_2,rfl,hm⟩:=hm
 replace hm:=AC hm;obtain⟨rfl,hm⟩:=hm
 replace hm:=Ai hm;obtain⟨x0,rfl,hm⟩:=hm
 replace hm:=Al hm;obtain⟨s0,rfl,hm⟩:=hm
 replace hm:=Be hm;obtain⟨b0,rfl,hm⟩:=hm
 replace hm:=Ai hm;obtain⟨x1,rfl,hm⟩:=hm
 unfold Xd at hm
 refine⟨by simp,?_⟩
 refine .same (F':=(fr 84 [(0,(.agg ⟨[(zY x0),(Sl.v 2 s0),zB b0]⟩)),(1,zI x1)])) (H':=Co) (by kernel_rfl) (by kernel_rfl) ?_
 refine .then (.rK (.ghs (fr 84 [(1,zI x1),(2,pt 1 0),(4,(pt 2 0))]) (hT 3 [(oC [(zY x0),(Sl.v 2 s0),zB b0]),(oC [(zI (0:Int)),(.slice none 0 0)])]) (.k0 [false] [.tmp 2 false,.tmp 4 false] [1,2,4]) ?_))
 refine .then (.rK (.ghs (fr 84 [(1,zI x1),(2,pt 1 0),(4,(pt 2 0)),(5,(pt 3 0))]) (hT 4 [(oC [(zY x0),(Sl.v 2 s0),zB b0]),(oC [(zI (0:Int)),(.slice none 0 0)]),(oC [(zI (Aj .i64 (Int.add (1:Int) (Int.tmod (Aj .i64 x0) (5:Int))))),(.slice none 0 0)])]) (.k0 [false] [.tmp 2 false,.tmp 4 false,.tmp 5 false] [1,2,4,5]) ?_))
 refine .join (v:=v) (fun y:Int×Int×Sl×Bool×Int×Int×Nat×Nat×LV=>((fr 84 [(1,(zI y.1)),(2,pt 1 0),(4,(pt 2 0)),(5,(pt 3 0))]),(hT 5 [(oC [(zY y.2.1),(Sl.v 2 y.2.2.1),(zB y.2.2.2.1)]),(oC [(zI y.2.2.2.2.1),(.slice none 0 0)]),(oC [(zI y.2.2.2.2.2.1),(sc 4 0 2 y.2.2.2.2.2.2.1 y.2.2.2.2.2.2.2.1)]),(oC y.2.2.2.2.2.2.2.2)]))) (fun y=>ML pu n y.1 y.2.1 y.2.2.1 y.2.2.2.1 y.2.2.2.2.1 y.2.2.2.2.2.1 y.2.2.2.2.2.2.1 y.2.2.2.2.2.2.2.1 y.2.2.2.2.2.2.2.2) ?_ ?_
 ·rintro⟨z0,z1,s1,b1,z2,z3,n0,c0,q0⟩ hm
  exact xC pu n z0 z1 s1 b1 z2 z3 n0 c0 q0 hm
 ·refine .then (.rK (.ghs (fr 84 [(1,zI x1),(2,pt 1 0),(4,(pt 2 0)),(5,(pt 3 0)),(18,zB b0)]) (hT 4 [(oC [(zY x0),(Sl.v 2 s0),zB b0]),(oC [(zI (0:Int)),(.slice none 0 0)]),(oC [(zI (Aj .i64 (Int.add (1:Int) (Int.tmod (Aj .i64 x0) (5:Int))))),(.slice none 0 0)])]) (.k0 [false] [.tmp 2 false,.tmp 4 false,.tmp 5 false] [1,2,4,5,18]) ?_))
  replace hm:=Ag hm;rcases hm with⟨h0,hm⟩ | ⟨h0,hm⟩
  ·refine .ifT b0 (by kernel_rfl) h0 ?_
   refine .then (.rK (.ghs (fr 84 [(1,zI x1),(2,pt 1 0),(4,(pt 2 0)),(5,(pt 3 0)),(6,(zI (Aj .i64 (Int.add (1:Int) (Int.tmod (Aj .i64 x0) (5:Int))))))]) (hT 4 [(oC [(zY x0),(Sl.v 2 s0),zB b0]),(oC [(zI (0:Int)),(.slice none 0 0)]),(oC [(zI (Aj .i64 (Int.add (1:Int) (Int.tmod (Aj .i64 x0) (5:Int))))),(.slice none 0 0)])]) (.k0 [false] [.tmp 2 false,.tmp 4 false,.tmp 5 false] [1,2,4,5,6]) ?_))
   refine .block (.loopM (v:=v) (fun y:Int×Int×Int×Sl×Bool×Int×Int×Nat×Nat×LV=>((fr 84 [(1,(zI y.1)),(2,pt 1 0),(4,(pt 2 0)),(5,(pt 3 0)),(6,(zI y.2.1))]),(hT 5 [(oC [(zY y.2.2.1),(Sl.v 2 y.2.2.2.1),(zB y.2.2.2.2.1)]),(oC [(zI y.2.2.2.2.2.1),(.slice none 0 0)]),(oC [(zI y.2.2.2.2.2.2.1),(sc 4 0 2 y.2.2.2.2.2.2.2.1 y.2.2.2.2.2.2.2.2.1)]),(oC y.2.2.2.2.2.2.2.2.2)]))) (fun w y=>MM pu n w y.1 y.2.1 y.2.2.1 y.2.2.2.1 y.2.2.2.2.1 y.2.2.2.2.2.1 y.2.2.2.2.2.2.1 y.2.2.2.2.2.2.2.1 y.2.2.2.2.2.2.2.2.1 y.2.2.2.2.2.2.2.2.2) n ⟨(x1,(Aj .i64 (Int.add (1:Int) (Int.tmod (Aj .i64 x0) (5:Int)))),x0,s0,b0,(0:Int),(Aj .i64 (Int.add (1:Int) (Int.tmod (Aj .i64 x0) (5:Int)))),0,0,([]:LV)),hm,(.thawC 3 1 2 [(zI (Aj .i64 (Int.add (1:Int) (Int.tmod (Aj .i64 x0) (5:Int))))),(.slice none 0 0)] (imm:=false) (spent:=false) (anc:=[]) (by kernel_rfl) (by kernel_rfl) (by kernel_rfl) (by kernel_rfl) (.k0 [false] [.tmp 2 false,.tmp 4 false,.tmp 5 true,.cell 3 1 false] [1,2,4,5,6]))⟩ (fun _=>rfl) ?_)
   rintro w0 ⟨z4,z5,z6,s2,b2,z7,z8,n1,c1,q1⟩ hm
   replace hm:V6 pu n (MM pu n w0) z4 z5 z6 s2 b2 z7 z8 n1 c1 q1=some v:=hm
   unfold V6 at hm
   refine .then (.then (.rK ?_))
   replace hm:=Ae hm;obtain⟨h1,hm⟩:=hm
   refine .ghs (fr 84 [(1,zI z4),(2,pt 1 0),(4,(pt 2 0)),(5,(pt 3 0)),(6,zI z5),(22,(zB (AY (1:Int) z5)))]) (hT 5 [(oC [(zY z6),(Sl.v 2 s2),zB b2]),(oC [zI z7,(.slice none 0 0)]),(oC [zI z8,sc 4 0 2 n1 c1]),oC q1]) (.k [4] [false] [.tmp 2 false,.tmp 4 false,.tmp 5 true,.cell 3 1 false] [1,2,4,5,6,22] ⟨Bq h1,trivial⟩) ?_
   replace hm:=Ag hm;rcases hm with⟨h2,hm⟩ | ⟨h2,hm⟩
   ·refine DL (AY (1:Int) z5) h2 ?_
    refine .skip (.ghs (fr 84 [(1,zI z4),(2,pt 1 0),(4,(pt 2 0)),(5,(pt 3 0)),(6,zI z5)]) (hT 5 [(oC [(zY z6),(Sl.v 2 s2),zB b2]),(oC [zI z7,(.slice none 0 0)]),(oC [zI z8,sc 4 0 2 n1 c1]),oC q1]) (.k [4] [false] [.tmp 2 false,.tmp 4 false,.tmp 5 true,.cell 3 1 false] [1,2,4,5,6] ⟨Bq h1,trivial⟩) ?_)
    refine .join (v:=v) (fun y:Int×Int×Int×Sl×Bool×Int×Int×Nat×Nat×LV=>((fr 84 [(1,(zI y.1)),(2,pt 1 0),(4,(pt 2 0)),(5,(pt 3 0)),(6,(zI y.2.1))]),(hT 5 [(oC [(zY y.2.2.1),(Sl.v 2 y.2.2.2.1),(zB y.2.2.2.2.1)]),(oC [(zI y.2.2.2.2.2.1),(.slice none 0 0)]),(oC [(zI y.2.2.2.2.2.2.1),(sc 4 0 2 y.2.2.2.2.2.2.2.1 y.2.2.2.2.2.2.2.2.1)]),(oC y.2.2.2.2.2.2.2.2.2)]))) (fun y=>V3 pu n (MM pu n w0) y.1 y.2.1 y.2.2.1 y.2.2.2.1 y.2.2.2.2.1 y.2.2.2.2.2.1 y.2.2.2.2.2.2.1 y.2.2.2.2.2.2.2.1 y.2.2.2.2.2.2.2.2.1 y.2.2.2.2.2.2.2.2.2) ?_ ?_
    ·rintro⟨z9,z10,z11,s3,b3,z12,z13,n2,c2,q2⟩ hm
     unfold V3 at hm
     refine .rK ?_
     replace hm:=Ae hm;obtain⟨h3,hm⟩:=hm
     exact⟨(z9,(Aj .i64 (Int.sub z10 (1:Int))),z11,s3,b3,z12,z13,n2,c2,q2),hm,(.k [4] [false] [.tmp 2 false,.tmp 4 false,.tmp 5 true,.cell 3 1 false] [1,2,4,5,6] ⟨Bq h3,trivial⟩)⟩
    ·refine .block (.then (.rK (.ghs (fr 84 [(1,zI z4),(2,pt 1 0),(4,(pt 2 0)),(5,(pt 3 0)),(6,zI z5),(7,(zI (0:Int)))]) (hT 5 [(oC [(zY z6),(Sl.v 2 s2),zB b2]),(oC [zI z7,(.slice none 0 0)]),(oC [zI z8,sc 4 0 2 n1 c1]),oC q1]) (.k [4] [false] [.tmp 2 false,.tmp 4 false,.tmp 5 true,.cell 3 1 false] [1,2,4,5,6,7] ⟨Bq h1,trivial⟩) ?_)))
     refine .block (.loopM (v:=v) (fun y:Int×Int×Int×Int×Sl×Bool×Int×Int×Nat×Nat×LV=>((fr 84 [(1,(zI y.1)),(2,pt 1 0),(4,(pt 2 0)),(5,(pt 3 0)),(6,(zI y.2.1)),(7,(zI y.2.2.1))]),(hT 5 [(oC [(zY y.2.2.2.1),(Sl.v 2 y.2.2.2.2.1),(zB y.2.2.2.2.2.1)]),(oC [(zI y.2.2.2.2.2.2.1),(.slice none 0 0)]),(oC [(zI y.2.2.2.2.2.2.2.1),(sc 4 0 2 y.2.2.2.2.2.2.2.2.1 y.2.2.2.2.2.2.2.2.2.1)]),(oC y.2.2.2.2.2.2.2.2.2.2)]))) (fun w y=>V5 pu n (MM pu n w0) w y.1 y.2.1 y.2.2.1 y.2.2.2.1 y.2.2.2.2.1 y.2.2.2.2.2.1 y.2.2.2.2.2.2.1 y.2.2.2.2.2.2.2.1 y.2.2.2.2.2.2.2.2.1 y.2.2.2.2.2.2.2.2.2.1 y.2.2.2.2.2.2.2.2.2.2) n ⟨(z4,z5,(0:Int),z6,s2,b2,z7,z8,n1,c1,q1),hm,(.k [4] [false] [.tmp 2 false,.tmp 4 false,.tmp 5 true,.cell 3 1 false] [1,2,4,5,6,7] ⟨Bq h1,trivial⟩)⟩ (fun _=>rfl) ?_)
     rintro w1 ⟨z14,z15,z16,z17,s4,b4,z18,z19,n3,c3,q3⟩ hm
     replace hm:V4 pu n (MM pu n w0) (V5 pu n (MM pu n w0) w1) z14 z15 z16 z17 s4 b4 z18 z19 n3 c3 q3=some v:=hm
     unfold V4 at hm
     refine .then (.then (.rK ?_))
     replace hm:=Ae hm;obtain⟨h4,hm⟩:=hm
     refine .ghs (fr 84 [(1,zI z14),(2,pt 1 0),(4,(pt 2 0)),(5,(pt 3 0)),(6,zI z15),(7,zI z16),(28,(zB (AY (Aj .i64 (Int.add z16 (1:Int))) z15)))]) (hT 5 [(oC [(zY z17),(Sl.v 2 s4),zB b4]),(oC [zI z18,(.slice none 0 0)]),(oC [zI z19,sc 4 0 2 n3 c3]),oC q3]) (.k [4] [false] [.tmp 2 false,.tmp 4 false,.tmp 5 true,.cell 3 1 false] [1,2,4,5,6,7,28] ⟨Bq h4,trivial⟩) ?_
     replace hm:=Ag hm;rcases hm with⟨h5,hm⟩ | ⟨h5,hm⟩
     ·refine DL (AY (Aj .i64 (Int.add z16 (1:Int))) z15) h5 ?_
      refine .skip (.ghs (fr 84 [(1,zI z14),(2,pt 1 0),(4,(pt 2 0)),(5,(pt 3 0)),(6,zI z15),(7,zI z16)]) (hT 5 [(oC [(zY z17),(Sl.v 2 s4),zB b4]),(oC [zI z18,(.slice none 0 0)]),(oC [zI z19,sc 4 0 2 n3 c3]),oC q3]) (.k [4] [false] [.tmp 2 false,.tmp 4 false,.tmp 5 true,.cell 3 1 false] [1,2,4,5,6,7] ⟨Bq h4,trivial⟩) ?_)
      refine .then (.block ?_)
      replace hm:=Ae hm;obtain⟨h6,hm⟩:=hm
      refine .reg (eC 7 (Oc 2 16 n3 c3 1 4 q3 [zI z16,(zI (Aj .i64 (Int.add z16 (1:Int))))] [] (hT 6 [(oC [(zY z17),(Sl.v 2 s4),zB b4]),(oC [zI z18,(.slice none 0 0)]),(oC [zI z19,sc 4 0 2 n3 c3]),oC q3,(oC [zI z16,(zI (Aj .i64 (Int.add z16 (1:Int))))])])) (I1 h6) (eE)) ?_
      replace hm:=Ae hm;obtain⟨h7,hm⟩:=hm
      refine .ghs (fr 84 [(1,zI z14),(2,pt 1 0),(4,(pt 2 0)),(5,(pt 3 0)),(6,zI z15),(7,zI z16)]) (hT 5 [(oC [(zY z17),(Sl.v 2 s4),zB b4]),(oC [zI z18,(.slice none 0 0)]),(oC [zI z19,(sc 4 0 2 (n3+1) (d2 (n3+1)))]),(oC (Br (Am 0 q3) [zI z16,(zI (Aj .i64 (Int.add z16 (1:Int))))]))]) (.k [6] [false] [.tmp 2 false,.tmp 4 false,.tmp 5 true,.cell 3 1 false] [1,2,4,5,6,7] ⟨Bq h7,trivial⟩) ?_
      refine .rK ?_
      exact⟨(z14,z15,(Aj .i64 (Int.add z16 (1:Int))),z17,s4,b4,z18,z19,(n3+1),(d2 (n3+1)),(Br (Am 0 q3) [zI z16,(zI (Aj .i64 (Int.add z16 (1:Int))))])),hm,(.k [4] [false] [.tmp 2 false,.tmp 4 false,.tmp 5 true,.cell 3 1 false] [1,2,4,5,6,7] ⟨Bq h7,trivial⟩)⟩
     ·refine DT (AY (Aj .i64 (Int.add z16 (1:Int))) z15) h5 ?_
      refine .exit ?_
      exact⟨(z14,z15,z17,s4,b4,z18,z19,n3,c3,q3),hm,(.k [4] [false] [.tmp 2 false,.tmp 4 false,.tmp 5 true,.cell 3 1 false] [1,2,4,5,6] ⟨Bq h4,trivial⟩)⟩
   ·refine DT (AY (1:Int) z5) h2 ?_
    refine .exit ?_
    exact⟨(z4,z6,s2,b2,z7,z8,n1,c1,q1),hm,(.k [4] [false] [.tmp 2 false,.tmp 4 false,.tmp 5 true,.cell 3 1 false] [1,2,4,5] ⟨Bq h1,trivial⟩)⟩
  ·refine .ifF b0 (by kernel_rfl) h0 ?_
   refine .skip ?_
   exact⟨(x1,x0,s0,b0,(0:Int),(Aj .i64 (Int.add (1:Int) (Int.tmod (Aj .i64 x0) (5:Int)))),0,0,([]:LV)),hm,(.thawC 3 1 2 [(zI (Aj .i64 (Int.add (1:Int) (Int.tmod (Aj .i64 x0) (5:Int))))),(.slice none 0 0)] (imm:=false) (spent:=false) (anc:=[]) (by kernel_rfl) (by kernel_rfl) (by kernel_rfl) (by kernel_rfl) (.k0 [false] [.tmp 2 false,.tmp 4 false,.tmp 5 true,.cell 3 1 false] [1,2,4,5]))⟩
end
end Go.TbWM
