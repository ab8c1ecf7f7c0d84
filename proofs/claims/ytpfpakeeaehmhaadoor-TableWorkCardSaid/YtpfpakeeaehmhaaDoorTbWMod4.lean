/- Made from wip. -/
import Derived.Test.YtpfpakeeaehmhaaDoorTbWMod0x

set_option maxRecDepth 100000
set_option maxHeartbeats 20000000
set_option linter.unusedVariables false
namespace Go.TbWM
open Go.Sp Go.TbW
noncomputable section
def Ua (pu:Af) (n:Nat):OV:=
 (some (.int .i64 (0:Int)))
def RP (pu:Af) (n:Nat) (ih0:Sl→Int→Int→Int→Sl→OV) (s0:Sl) (z0 z1:Int) (b0:Bool) (z2:Int) (s1:Sl) (z3 z4:Int):OV:=
 (bb b0 (some (.int .i64 (2:Int))) (bb (nt (AY z3 z4)) (some (.int .i64 (7:Int))) (ih0 s0 z0 (Aj .i64 (Int.add z1 (1:Int))) z2 s1)))
def RQ (pu:Af) (n:Nat) (ih0:Sl→Int→Int→Int→Sl→OV) (s0:Sl) (z0 z1 z2:Int) (s1:Sl):OV:=
 (bb (AY z1 z0) (oo (EA z1) none fun k1=>(bb (an (Nat.blt k1 (Sl.n s0)) true) (bb (Nat.ble ((k1*2)+2) (len (Sl.cs s0))) (oo (AL (Sl.cs s0) (k1*2)) none fun v0=>(oo (Bi .i64 v0) none fun x0=>(oo (AL (Sl.cs s0) ((k1*2)+1)) none fun v1=>(oo (Bi .i64 v1) none fun x1=>(bb (AY (bb (AY x1 x0) x1 x0) (0:Int)) (RP pu n ih0 s0 z0 (Int.ofNat k1) true z2 s1 x0 x1) (RP pu n ih0 s0 z0 (Int.ofNat k1) (nt (AY (bb (AY x0 x1) x1 x0) z2)) z2 s1 x0 x1)))))) none) none)) (Ua pu n))
def OD (pu:Af) (n w:Nat):Sl→Int→Int→Int→Sl→OV:=
 Nat.rec (motive:=fun _=>Sl→Int→Int→Int→Sl→OV) (fun _ _ _ _ _=>none) (fun _ ih0=>RQ pu n ih0) w
def xH (pu:Af) (n:Nat) (x0:Int) (s0:Sl):OV:=
 (oo (pu 65 [(.int .i64 (1:Int)),.int .i64 x0,(.int .i64 (7:Int))]) none fun v0=>(oo (Bf v0) none fun b0=>(bb (nt b0) (some (.int .i64 (1:Int))) (bb (AY (24:Int) (Int.ofNat (Sl.n s0))) (some (.int .i64 (3:Int))) (OD pu n n s0 (Int.ofNat (Sl.n s0)) (0:Int) x0 s0)))))
def m55 (pu:Af) (n:Nat) (args:LV):OV:=
 (ll args none fun a0 args=>(ll args (oo (Bt a0) none fun l0=>(ll l0 none fun v0 l0=>(ll l0 none fun v1 l0=>(ll l0 (oo (Bi .i64 v0) none fun x0=>(oo (Bj 2 v1) none fun s0=>(xH pu n x0 s0))) fun _ _=>none)))) fun _ _=>none))
theorem xI (pu:Af) (n:Nat) {v:Value} (hm:Ua pu n=some v):BN tt (Bb tabs FM pu (inl pu)) 1 U0 (fr 46 []) Co (Fin tt 1 [.tmp 2] v):=by
 unfold Ua at hm
 refine .then (.rK (.ghs (fr 46 [(2,(zI (0:Int)))]) Co (.k0 [false] [] [2]) ?_))
 refine .ret ?_
 exact Cs (zI (0:Int)) hm
theorem r55 {call:A8} (pu:Af) (n:Nat) (hcall:call=Bb tabs FM pu (inl pu)) {args:LV} {v:Value} (hm:m55 pu n args=some v) (_:∀ x∈args,closed2 x=true):args.length≤46∧BN tt call 1 Qp (Fr.made 46 args) (Ao tabs) (Fin tt 1 [.tmp 2] v):=by
 subst hcall
 unfold m55 at hm
 replace hm:=Ad hm;obtain⟨a0,args_0,rfl,hm⟩:=hm
 replace hm:=AC hm;obtain⟨rfl,hm⟩:=hm
 replace hm:=BG hm;obtain⟨l0,rfl,hm⟩:=hm
 replace hm:=Ad hm;obtain⟨v0,l8803_0,rfl,hm⟩:=hm
 replace hm:=Ad hm;obtain⟨v1,l8803_1,rfl,hm⟩:=hm
 replace hm:=AC hm;obtain⟨rfl,hm⟩:=hm
 replace hm:=Ai hm;obtain⟨x0,rfl,hm⟩:=hm
 replace hm:=Al hm;obtain⟨s0,rfl,hm⟩:=hm
 unfold xH at hm
 refine⟨by simp,?_⟩
 refine .same (F':=(fr 46 [(0,(.agg ⟨[zI x0,(Sl.v 2 s0)]⟩))])) (H':=Co) (by kernel_rfl) (by kernel_rfl) ?_
 refine .then (.rK (.ghs (fr 46 [(1,pt 1 0)]) (hT 2 [(oC [zI x0,(Sl.v 2 s0)])]) (.k0 [false] [.tmp 1 false] [1]) ?_))
 refine .then (.block (.then ?_))
 replace hm:=Sm hm;obtain⟨b0,h0,hm⟩:=hm
 refine .reg (eC 2 ((oo (pu 65 [(zI (1:Int)),zI x0,(zI (7:Int))]) none fun v=>some (v,(hT 2 [(oC [zI x0,(Sl.v 2 s0)])])))) (AB h0) (eE)) ?_
 refine .ghs (fr 46 [(1,pt 1 0),(5,(zB (nt b0)))]) (hT 2 [(oC [zI x0,(Sl.v 2 s0)])]) (.k0 [false] [.tmp 1 false] [1,5]) ?_
 replace hm:=Ag hm;rcases hm with⟨h1,hm⟩ | ⟨h1,hm⟩
 ·refine DL (nt b0) h1 ?_
  refine .then (.rK (.ghs (fr 46 [(2,(zI (1:Int)))]) Co (.k0 [false] [] [2]) ?_))
  refine .ret ?_
  exact Cs (zI (1:Int)) hm
 ·refine DT (nt b0) h1 ?_
  refine .then (.rK (.ghs (fr 46 [(1,pt 1 0),(10,(zB (AY (24:Int) (Int.ofNat (Sl.n s0)))))]) (hT 2 [(oC [zI x0,(Sl.v 2 s0)])]) (.k0 [false] [.tmp 1 false] [1,10]) ?_))
  replace hm:=Ag hm;rcases hm with⟨h2,hm⟩ | ⟨h2,hm⟩
  ·refine DL (AY (24:Int) (Int.ofNat (Sl.n s0))) h2 ?_
   refine .then (.rK (.ghs (fr 46 [(2,(zI (3:Int)))]) Co (.k0 [false] [] [2]) ?_))
   refine .ret ?_
   exact Cs (zI (3:Int)) hm
  ·refine DT (AY (24:Int) (Int.ofNat (Sl.n s0))) h2 ?_
   refine .skip (.ghs (fr 46 [(1,pt 1 0)]) (hT 2 [(oC [zI x0,(Sl.v 2 s0)])]) (.k0 [false] [.tmp 1 false] [1]) ?_)
   refine .join (v:=v) (fun y:Unit=>((fr 46 []),Co)) (fun y=>Ua pu n) ?_ ?_
   ·rintro _ hm
    exact xI pu n hm
   ·refine .then (.rK (.ghs (fr 46 [(1,pt 1 0),(16,(Sl.v 2 s0)),(17,(zI (Int.ofNat (Sl.n s0)))),(18,(zI (0:Int)))]) (hT 2 [(oC [zI x0,(Sl.v 2 s0)])]) (.k0 [false] [.tmp 1 false] [1,16,17,18]) ?_))
    refine .block (.loopM (v:=v) (fun y:Sl×Int×Int×Int×Sl=>((fr 46 [(1,pt 1 0),(16,(Sl.v 2 y.1)),(17,(zI y.2.1)),(18,(zI y.2.2.1))]),(hT 2 [(oC [(zI y.2.2.2.1),(Sl.v 2 y.2.2.2.2)])]))) (fun w y=>OD pu n w y.1 y.2.1 y.2.2.1 y.2.2.2.1 y.2.2.2.2) n ⟨(s0,(Int.ofNat (Sl.n s0)),(0:Int),x0,s0),hm,(.k0 [false] [.tmp 1 false] [1,16,17,18])⟩ (fun _=>rfl) ?_)
    rintro w0 ⟨s1,z0,z1,z2,s2⟩ hm
    replace hm:RQ pu n (OD pu n w0) s1 z0 z1 z2 s2=some v:=hm
    unfold RQ at hm
    refine .then (.rK (.ghs (fr 46 [(1,pt 1 0),(16,(Sl.v 2 s1)),(17,zI z0),(18,zI z1),(19,(zB (AY z1 z0)))]) (hT 2 [(oC [zI z2,(Sl.v 2 s2)])]) (.k0 [false] [.tmp 1 false] [1,16,17,18,19]) ?_))
    refine .then ?_
    replace hm:=Ag hm;rcases hm with⟨h3,hm⟩ | ⟨h3,hm⟩
    ·refine DL (AY z1 z0) h3 ?_
     refine .skip (.ghs (fr 46 [(1,pt 1 0),(16,(Sl.v 2 s1)),(17,zI z0),(18,zI z1)]) (hT 2 [(oC [zI z2,(Sl.v 2 s2)])]) (.k0 [false] [.tmp 1 false] [1,16,17,18]) ?_)
     refine .then (.block (.then ?_))
     replace hm:=Ab hm;obtain⟨k1,h4,hm⟩:=hm
     obtain rfl:=AR h4
     replace hm:=Ae hm;obtain⟨h5,hm⟩:=hm
     replace hm:=Ae hm;obtain⟨h6,hm⟩:=hm
     replace hm:=I9 hm;obtain⟨x1,h7,hm⟩:=hm
     replace hm:=I9 hm;obtain⟨x2,h8,hm⟩:=hm
     refine .reg (eD (keep (hT 2 [(oC [zI z2,(Sl.v 2 s2)])]) (bb (an (Nat.blt k1 (Sl.n s1)) true) (some (Cv (k1*2) (Sl.cs s1))) none)) (AX h5) (eD (keep (hT 2 [(oC [zI z2,(Sl.v 2 s2)])]) (bb (Nat.ble ((k1*2)+2) (len (Sl.cs s1))) (some (.agg ⟨Aq 2 (Am (k1*2) (Sl.cs s1))⟩)) none)) (Pd h6 (Ca h7 (Ca h8 rfl))) (eE))) ?_
     refine .ghs (fr 46 [(1,pt 1 0),(4,(pt 2 0)),(16,(Sl.v 2 s1)),(17,zI z0),(18,(zI (Int.ofNat k1)))]) (hT 3 [(oC [zI z2,(Sl.v 2 s2)]),(oC [zI x1,zI x2])]) (.k0 [false] [.tmp 1 false,.tmp 4 false] [1,4,16,17,18]) ?_
     refine .block (.join (v:=v) (fun y:Sl×Int×Int×Bool×Int×Sl×Int×Int=>((fr 46 [(1,pt 1 0),(4,(pt 2 0)),(16,(Sl.v 2 y.1)),(17,(zI y.2.1)),(18,(zI y.2.2.1)),(22,(zB y.2.2.2.1))]),(hT 3 [(oC [(zI y.2.2.2.2.1),(Sl.v 2 y.2.2.2.2.2.1)]),(oC [(zI y.2.2.2.2.2.2.1),(zI y.2.2.2.2.2.2.2)])]))) (fun y=>RP pu n (OD pu n w0) y.1 y.2.1 y.2.2.1 y.2.2.2.1 y.2.2.2.2.1 y.2.2.2.2.2.1 y.2.2.2.2.2.2.1 y.2.2.2.2.2.2.2) ?_ ?_)
     ·rintro⟨s3,z3,z4,b1,z5,s4,z6,z7⟩ hm
      unfold RP at hm
      replace hm:=Ag hm;rcases hm with⟨h9,hm⟩ | ⟨h9,hm⟩
      ·refine .ifT b1 (by kernel_rfl) h9 ?_
       refine .then (.rK (.ghs (fr 46 [(2,(zI (2:Int)))]) Co (.k0 [false] [] [2]) ?_))
       refine .ret ?_
       exact Cs (zI (2:Int)) hm
      ·refine .ifF b1 (by kernel_rfl) h9 ?_
       refine .then (.rK (.ghs (fr 46 [(1,pt 1 0),(16,(Sl.v 2 s3)),(17,zI z3),(18,zI z4),(39,(zB (nt (AY z6 z7))))]) (hT 2 [(oC [zI z5,(Sl.v 2 s4)])]) (.k0 [false] [.tmp 1 false] [1,16,17,18,39]) ?_))
       replace hm:=Ag hm;rcases hm with⟨h10,hm⟩ | ⟨h10,hm⟩
       ·refine DL (nt (AY z6 z7)) h10 ?_
        refine .then (.rK (.ghs (fr 46 [(2,(zI (7:Int)))]) Co (.k0 [false] [] [2]) ?_))
        refine .ret ?_
        exact Cs (zI (7:Int)) hm
       ·refine DT (nt (AY z6 z7)) h10 ?_
        refine .skip (.ghs (fr 46 [(1,pt 1 0),(16,(Sl.v 2 s3)),(17,zI z3),(18,zI z4)]) (hT 2 [(oC [zI z5,(Sl.v 2 s4)])]) (.k0 [false] [.tmp 1 false] [1,16,17,18]) ?_)
        refine .rK ?_
        exact⟨(s3,z3,(Aj .i64 (Int.add z4 (1:Int))),z5,s4),hm,(.k0 [false] [.tmp 1 false] [1,16,17,18])⟩
     ·replace hm:=Ag hm;rcases hm with⟨h11,hm⟩ | ⟨h11,hm⟩
      ·refine .reg (eC 5 (some ((zB (AY (bb (AY x2 x1) x2 x1) (0:Int))),(hT 3 [(oC [zI z2,(Sl.v 2 s2)]),(oC [zI x1,zI x2])]))) (show _=some ((zB true),_) from (by rw[show (AY (bb (AY x2 x1) x2 x1) (0:Int))=true from h11])) (eE)) ?_
       exact⟨(s1,z0,(Int.ofNat k1),true,z2,s2,x1,x2),hm,(.k0 [false] [.tmp 1 false,.tmp 4 false] [1,4,16,17,18,22])⟩
      ·refine .reg (eC 5 (some ((zB (AY (bb (AY x2 x1) x2 x1) (0:Int))),(hT 3 [(oC [zI z2,(Sl.v 2 s2)]),(oC [zI x1,zI x2])]))) (show _=some ((zB false),_) from (by rw[show (AY (bb (AY x2 x1) x2 x1) (0:Int))=false from h11])) (eE)) ?_
       exact⟨(s1,z0,(Int.ofNat k1),(nt (AY (bb (AY x1 x2) x2 x1) z2)),z2,s2,x1,x2),hm,(.k0 [false] [.tmp 1 false,.tmp 4 false] [1,4,16,17,18,22])⟩
    ·refine DT (AY z1 z0) h3 ?_
     refine .exit ?_
     exact⟨(),hm,(.k0 [false] [] [])⟩
def Ub (pu:Af) (n:Nat) (q0:LV) (q1:LV):OV:=
 (bb (Nat.ble (0+14) (len q1)) (bb (Nat.beq (len (Aq 14 (Am 0 q1))) 14) (bb (an (Nat.ble (0+len (Aq 14 (Am 0 q1))) (len q0)) (Au D6 (Aq 14 (Am 0 q1)))) (bb (Au Ah (BM (Aq 14 (Am 0 q1)) 0 q0)) (bb (Nat.ble (0+14) (len (BM (Aq 14 (Am 0 q1)) 0 q0))) (bb (Fe (.agg ⟨(Aq 14 (Am 0 (BM (Aq 14 (Am 0 q1)) 0 q0)))⟩)) (some (.agg ⟨(Aq 14 (Am 0 (BM (Aq 14 (Am 0 q1)) 0 q0)))⟩)) none) none) none) none) none) none)
def V8 (pu:Af) (n:Nat) (ih0:Int→Int→Int→LV→LV→OV) (z0 z1 z2:Int) (q0:LV) (q1:LV):OV:=
 (bb (Au Ah q0) (bb (Au Ah q1) (ih0 z0 z1 (Aj .i64 (Int.add z2 (1:Int))) q0 q1) none) none)
def V9 (pu:Af) (n:Nat) (ih0:Int→Int→Int→LV→LV→OV) (ih1:Int→Int→Int→Int→Int→Int→LV→LV→OV) (z0 z1 z2 z3 z4 z5:Int) (q0:LV) (q1:LV):OV:=
 (bb (Au Ah q0) (bb (Au Ah q1) (bb (AY z5 z4) (oo (EA (Aj .i64 (Int.tdiv z1 (64:Int)))) none fun k1=>(oo (EA z5) none fun k2=>(bb (Nat.blt k2 7) (bb (Nat.blt k1 2) (oo (AL q1 ((0+k2*2)+k1*1)) none fun v0=>(oo (Bi .u64 v0) none fun x0=>(oo (EA (Aj .i64 (Int.sub (Aj .i64 (Int.sub z0 (1:Int))) (Int.ofNat k2)))) none fun k3=>(oo (EA (Int.tmod z1 (64:Int))) none fun k4=>(bb (Nat.blt k2 7) (bb (Nat.blt k1 2) (bb (an (Nat.ble (((0+k2*2)+k1*1)+1) (len q1)) true) (bb (Au Ah (BM ([(.int .u64 (jF .u64 x0 (QW .u64 (Aj .u64 (Np .i64 (G6 .i64 z1 k3) (1:Int))) k4)))]:LV) ((0+k2*2)+k1*1) q1)) (ih1 z0 z1 z2 z3 z4 (Aj .i64 (Int.add (Int.ofNat k2) (1:Int))) q0 (BM ([(.int .u64 (jF .u64 x0 (QW .u64 (Aj .u64 (Np .i64 (G6 .i64 z1 k3) (1:Int))) k4)))]:LV) ((0+k2*2)+k1*1) q1)) none) none) none) none))))) none) none))) (V8 pu n ih0 z0 z2 z3 q0 q1)) none) none)
def Wj (pu:Af) (n:Nat) (ih0:Int→Int→Int→LV→LV→OV) (w:Nat):Int→Int→Int→Int→Int→Int→LV→LV→OV:=
 Nat.rec (motive:=fun _=>Int→Int→Int→Int→Int→Int→LV→LV→OV) (fun _ _ _ _ _ _ _ _=>none) (fun _ ih1=>V9 pu n ih0 ih1) w
def Wl (pu:Af) (n:Nat) (ih0:Int→Int→Int→LV→LV→OV) (z0 z1 z2:Int) (q0:LV) (q1:LV):OV:=
 (bb (Au Ah q0) (bb (Au Ah q1) (bb (AY z2 z1) (Wj pu n ih0 n z0 z2 z1 z2 z0 (0:Int) q0 q1) (Ub pu n q0 q1)) none) none)
def OE (pu:Af) (n w:Nat):Int→Int→Int→LV→LV→OV:=
 Nat.rec (motive:=fun _=>Int→Int→Int→LV→LV→OV) (fun _ _ _ _ _=>none) (fun _ ih0=>Wl pu n ih0) w
def xJ (pu:Af) (n:Nat) (x0:Int):OV:=
 (bb (Au Ah BB) (oo (EA x0) none fun k1=>(OE pu n n (Int.ofNat k1) (QW .i64 (1:Int) k1) (0:Int) BB BB)) none)
def m56 (pu:Af) (n:Nat) (args:LV):OV:=
 (ll args none fun a0 args=>(ll args (oo (Bi .i64 a0) none fun x0=>(xJ pu n x0)) fun _ _=>none))
theorem xK (pu:Af) (n:Nat) (q0:LV) (q1:LV) {v:Value} (hm:Ub pu n q0 q1=some v):BN tt (Bb tabs FM pu (inl pu)) 1 VL (fr 38 [(2,pt 1 0),(3,(pt 2 0))]) (hT 3 [oC q0,oC q1]) (Fin tt 1 [.cell 2 86] v):=by
 unfold Ub at hm
 refine .then ?_
 replace hm:=Ae hm;obtain⟨h0,hm⟩:=hm
 replace hm:=Ae hm;obtain⟨h1,hm⟩:=hm
 replace hm:=Ae hm;obtain⟨h2,hm⟩:=hm
 refine .reg (eD (keep (hT 3 [oC q0,oC q1]) (bb (Nat.ble (0+14) (len q1)) (some (.agg ⟨(Aq 14 (Am 0 q1))⟩)) none)) (AX h0) (eD (done (bb (Nat.beq (len (Aq 14 (Am 0 q1))) 14) (bb (an (Nat.ble (0+len (Aq 14 (Am 0 q1))) (len q0)) (Au D6 (Aq 14 (Am 0 q1)))) (some (hT 3 [(oC (BM (Aq 14 (Am 0 q1)) 0 q0)),oC q1])) none) none) undef) (bH h1 h2) (eE))) ?_
 replace hm:=Ae hm;obtain⟨h3,hm⟩:=hm
 refine .ghs (fr 38 [(2,pt 1 0)]) (hT 2 [(oC (BM (Aq 14 (Am 0 q1)) 0 q0))]) (.k [1] [false] [.tmp 2 false] [2] ⟨Bq h3,trivial⟩) ?_
 refine .ret ?_
 replace hm:=Ae hm;obtain⟨h4,hm⟩:=hm
 replace hm:=Ae hm;obtain⟨h5,hm⟩:=hm
 exact kI (.agg ⟨(Aq 14 (Am 0 (BM (Aq 14 (Am 0 q1)) 0 q0)))⟩) (SN (Oh (show Q6 _ _ _ _=some (.agg ⟨(Aq 14 (Am 0 (BM (Aq 14 (Am 0 q1)) 0 q0)))⟩) from (Aex (c:=(Nat.ble (0+14) (len (BM (Aq 14 (Am 0 q1)) 0 q0)))) (by kernel_rfl) h4)) rfl) (by kernel_rfl)) h5 hm
theorem r56 {call:A8} (pu:Af) (n:Nat) (hcall:call=Bb tabs FM pu (inl pu)) {args:LV} {v:Value} (hm:m56 pu n args=some v) (_:∀ x∈args,closed2 x=true):args.length≤38∧BN tt call 1 Qq (Fr.made 38 args) (Ao tabs) (Fin tt 1 [.cell 2 86] v):=by
 subst hcall
 unfold m56 at hm
 replace hm:=Ad hm;obtain⟨a0,args_0,rfl,hm⟩:=hm
 replace hm:=AC hm;obtain⟨rfl,hm⟩:=hm
 replace hm:=Ai hm;obtain⟨x0,rfl,hm⟩:=hm
 unfold xJ at hm
 refine⟨by simp,?_⟩
 refine .same (F':=(fr 38 [(0,zI x0)])) (H':=Co) (by kernel_rfl) (by kernel_rfl) ?_
 refine .then (.rK ?_)
 replace hm:=Ae hm;obtain⟨h0,hm⟩:=hm
 refine .ghs (fr 38 [(0,zI x0),(2,pt 1 0)]) (hT 2 [oC BB]) (.k [1] [false] [.tmp 2 false] [0,2] ⟨Bq h0,trivial⟩) ?_
 refine .then (.rK (.ghs (fr 38 [(0,zI x0),(2,pt 1 0),(3,(pt 2 0))]) (hT 3 [oC BB,oC BB]) (.k [1,2] [false] [.tmp 2 false,.tmp 3 false] [0,2,3] ⟨Bq h0,Bq h0,trivial⟩) ?_))
 refine .join (v:=v) (fun y:LV×LV=>((fr 38 [(2,pt 1 0),(3,(pt 2 0))]),(hT 3 [(oC y.1),(oC y.2)]))) (fun y=>Ub pu n y.1 y.2) ?_ ?_
 ·rintro⟨q0,q1⟩ hm
  exact xK pu n q0 q1 hm
 ·refine .then ?_
  replace hm:=Ab hm;obtain⟨k1,h1,hm⟩:=hm
  obtain rfl:=AR h1
  refine .rK (.ghs (fr 38 [(0,(zI (Int.ofNat k1))),(2,pt 1 0),(3,(pt 2 0)),(7,(zI (QW .i64 (1:Int) k1))),(8,(zI (0:Int)))]) (hT 3 [oC BB,oC BB]) (.k [1,2] [false] [.tmp 2 false,.tmp 3 false] [0,2,3,7,8] ⟨Bq h0,Bq h0,trivial⟩) ?_)
  refine .block (.loopM (v:=v) (fun y:Int×Int×Int×LV×LV=>((fr 38 [(0,(zI y.1)),(2,pt 1 0),(3,(pt 2 0)),(7,(zI y.2.1)),(8,(zI y.2.2.1))]),(hT 3 [(oC y.2.2.2.1),(oC y.2.2.2.2)]))) (fun w y=>OE pu n w y.1 y.2.1 y.2.2.1 y.2.2.2.1 y.2.2.2.2) n ⟨((Int.ofNat k1),(QW .i64 (1:Int) k1),(0:Int),BB,BB),hm,(.k [1,2] [false] [.tmp 2 false,.tmp 3 false] [0,2,3,7,8] ⟨Bq h0,Bq h0,trivial⟩)⟩ (fun _=>rfl) ?_)
  rintro w0 ⟨z0,z1,z2,q2,q3⟩ hm
  replace hm:Wl pu n (OE pu n w0) z0 z1 z2 q2 q3=some v:=hm
  unfold Wl at hm
  refine .then (.rK ?_)
  replace hm:=Ae hm;obtain⟨h2,hm⟩:=hm
  replace hm:=Ae hm;obtain⟨h3,hm⟩:=hm
  refine .ghs (fr 38 [(0,zI z0),(2,pt 1 0),(3,(pt 2 0)),(7,zI z1),(8,zI z2),(9,(zB (AY z2 z1)))]) (hT 3 [oC q2,oC q3]) (.k [1,2] [false] [.tmp 2 false,.tmp 3 false] [0,2,3,7,8,9] ⟨Bq h2,Bq h3,trivial⟩) ?_
  refine .then ?_
  replace hm:=Ag hm;rcases hm with⟨h4,hm⟩ | ⟨h4,hm⟩
  ·refine DL (AY z2 z1) h4 ?_
   refine .skip (.ghs (fr 38 [(0,zI z0),(2,pt 1 0),(3,(pt 2 0)),(7,zI z1),(8,zI z2)]) (hT 3 [oC q2,oC q3]) (.k [1,2] [false] [.tmp 2 false,.tmp 3 false] [0,2,3,7,8] ⟨Bq h2,Bq h3,trivial⟩) ?_)
   refine .join (v:=v) (fun y:Int×Int×Int×LV×LV=>((fr 38 [(0,(zI y.1)),(2,pt 1 0),(3,(pt 2 0)),(7,(zI y.2.1)),(8,(zI y.2.2.1))]),(hT 3 [(oC y.2.2.2.1),(oC y.2.2.2.2)]))) (fun y=>V8 pu n (OE pu n w0) y.1 y.2.1 y.2.2.1 y.2.2.2.1 y.2.2.2.2) ?_ ?_
   ·rintro⟨z3,z4,z5,q4,q5⟩ hm
    unfold V8 at hm
    refine .rK ?_
    replace hm:=Ae hm;obtain⟨h5,hm⟩:=hm
    replace hm:=Ae hm;obtain⟨h6,hm⟩:=hm
    exact⟨(z3,z4,(Aj .i64 (Int.add z5 (1:Int))),q4,q5),hm,(.k [1,2] [false] [.tmp 2 false,.tmp 3 false] [0,2,3,7,8] ⟨Bq h5,Bq h6,trivial⟩)⟩
   ·refine .block (.then (.rK (.ghs (fr 38 [(0,zI z0),(2,pt 1 0),(3,(pt 2 0)),(4,zI z2),(7,zI z1),(8,zI z2)]) (hT 3 [oC q2,oC q3]) (.k [1,2] [false] [.tmp 2 false,.tmp 3 false] [0,2,3,4,7,8] ⟨Bq h2,Bq h3,trivial⟩) ?_)))
    refine .then (.rK (.ghs (fr 38 [(0,zI z0),(2,pt 1 0),(3,(pt 2 0)),(4,zI z2),(7,zI z1),(8,zI z2),(11,zI z0),(12,(zI (0:Int)))]) (hT 3 [oC q2,oC q3]) (.k [1,2] [false] [.tmp 2 false,.tmp 3 false] [0,2,3,4,7,8,11,12] ⟨Bq h2,Bq h3,trivial⟩) ?_))
    refine .block (.loopM (v:=v) (fun y:Int×Int×Int×Int×Int×Int×LV×LV=>((fr 38 [(0,(zI y.1)),(2,pt 1 0),(3,(pt 2 0)),(4,(zI y.2.1)),(7,(zI y.2.2.1)),(8,(zI y.2.2.2.1)),(11,(zI y.2.2.2.2.1)),(12,(zI y.2.2.2.2.2.1))]),(hT 3 [(oC y.2.2.2.2.2.2.1),(oC y.2.2.2.2.2.2.2)]))) (fun w y=>Wj pu n (OE pu n w0) w y.1 y.2.1 y.2.2.1 y.2.2.2.1 y.2.2.2.2.1 y.2.2.2.2.2.1 y.2.2.2.2.2.2.1 y.2.2.2.2.2.2.2) n ⟨(z0,z2,z1,z2,z0,(0:Int),q2,q3),hm,(.k [1,2] [false] [.tmp 2 false,.tmp 3 false] [0,2,3,4,7,8,11,12] ⟨Bq h2,Bq h3,trivial⟩)⟩ (fun _=>rfl) ?_)
    rintro w1 ⟨z6,z7,z8,z9,z10,z11,q6,q7⟩ hm
    replace hm:V9 pu n (OE pu n w0) (Wj pu n (OE pu n w0) w1) z6 z7 z8 z9 z10 z11 q6 q7=some v:=hm
    unfold V9 at hm
    refine .then (.rK ?_)
    replace hm:=Ae hm;obtain⟨h7,hm⟩:=hm
    replace hm:=Ae hm;obtain⟨h8,hm⟩:=hm
    refine .ghs (fr 38 [(0,zI z6),(2,pt 1 0),(3,(pt 2 0)),(4,zI z7),(7,zI z8),(8,zI z9),(11,zI z10),(12,zI z11),(13,(zB (AY z11 z10)))]) (hT 3 [oC q6,oC q7]) (.k [1,2] [false] [.tmp 2 false,.tmp 3 false] [0,2,3,4,7,8,11,12,13] ⟨Bq h7,Bq h8,trivial⟩) ?_
    refine .then ?_
    replace hm:=Ag hm;rcases hm with⟨h9,hm⟩ | ⟨h9,hm⟩
    ·refine DL (AY z11 z10) h9 ?_
     refine .skip (.ghs (fr 38 [(0,zI z6),(2,pt 1 0),(3,(pt 2 0)),(4,zI z7),(7,zI z8),(8,zI z9),(11,zI z10),(12,zI z11)]) (hT 3 [oC q6,oC q7]) (.k [1,2] [false] [.tmp 2 false,.tmp 3 false] [0,2,3,4,7,8,11,12] ⟨Bq h7,Bq h8,trivial⟩) ?_)
     refine .then (.block (.then (.rK (.ghs (fr 38 [(0,zI z6),(2,pt 1 0),(3,(pt 2 0)),(4,zI z7),(5,zI z11),(7,zI z8),(8,zI z9),(11,zI z10),(12,zI z11)]) (hT 3 [oC q6,oC q7]) (.k [1,2] [false] [.tmp 2 false,.tmp 3 false] [0,2,3,4,5,7,8,11,12] ⟨Bq h7,Bq h8,trivial⟩) ?_))))
     replace hm:=Ab hm;obtain⟨k2,h10,hm⟩:=hm
     replace hm:=Ab hm;obtain⟨k3,h11,hm⟩:=hm
     obtain rfl:=AR h11
     replace hm:=Ae hm;obtain⟨h12,hm⟩:=hm
     replace hm:=Ae hm;obtain⟨h13,hm⟩:=hm
     replace hm:=I9 hm;obtain⟨x1,h14,hm⟩:=hm
     replace hm:=Ab hm;obtain⟨k4,h15,hm⟩:=hm
     replace hm:=Ab hm;obtain⟨k5,h16,hm⟩:=hm
     replace hm:=Ae hm;obtain⟨h17,hm⟩:=hm
     replace hm:=Ae hm;obtain⟨h18,hm⟩:=hm
     replace hm:=Ae hm;obtain⟨h19,hm⟩:=hm
     refine .reg (eN 5 (Fr.puts (fr 38 [(0,zI z6),(2,pt 1 0),(3,(pt 2 0)),(4,zI z7),(5,(zI (Int.ofNat k3))),(7,zI z8),(8,zI z9),(11,zI z10),(12,(zI (Int.ofNat k3)))]) [(15,(zI (Int.ofNat k3))),(16,zI z7),(17,(zI (Int.ofNat k2))),(18,(.pointer (some ⟨2,(0+k3*2),none⟩))),(19,(.pointer (some ⟨2,((0+k3*2)+k2*1),none⟩)))]) (hT 3 [oC q6,oC q7]) (eC 2 (some ((zI (Aj .i64 (Int.tdiv z7 (64:Int)))),(hT 3 [oC q6,oC q7]))) (show _=some ((zI (Int.ofNat k2)),_) from (by rw[AR h10])) (eD (keep (hT 3 [oC q6,oC q7]) (bb (Nat.blt k3 7) (some (.pointer (some ⟨2,(0+k3*2),none⟩))) none)) (AX h12) (eD (keep (hT 3 [oC q6,oC q7]) (bb (Nat.blt k2 2) (some (.pointer (some ⟨2,((0+k3*2)+k2*1),none⟩))) none)) (AX h13) (by kernel_rfl)))) (eN 11 (Fr.puts (fr 38 [(0,zI z6),(2,pt 1 0),(3,(pt 2 0)),(4,zI z7),(5,(zI (Int.ofNat k3))),(7,zI z8),(8,zI z9),(11,zI z10),(12,(zI (Int.ofNat k3)))]) [(15,(zI (Int.ofNat k3))),(16,zI z7),(17,(zI (Int.ofNat k2))),(18,(.pointer (some ⟨2,(0+k3*2),none⟩))),(19,(.pointer (some ⟨2,((0+k3*2)+k2*1),none⟩))),(20,(zU x1)),(21,zI z7),(22,zI z6),(23,(zI (Aj .i64 (Int.sub z6 (1:Int))))),(24,(zI (Int.ofNat k3))),(25,(zI (Int.ofNat k4))),(26,(zI (G6 .i64 z7 k4))),(27,(zI (Np .i64 (G6 .i64 z7 k4) (1:Int)))),(28,(zU (Aj .u64 (Np .i64 (G6 .i64 z7 k4) (1:Int))))),(29,zI z7),(30,(zI (Int.ofNat k5)))]) (hT 3 [oC q6,oC q7]) (eD (keep (hT 3 [oC q6,oC q7]) (AL q7 ((0+k3*2)+k2*1))) (AZ h14) (eC 4 (some ((zI (Aj .i64 (Int.sub (Aj .i64 (Int.sub z6 (1:Int))) (Int.ofNat k3)))),(hT 3 [oC q6,oC q7]))) (show _=some ((zI (Int.ofNat k4)),_) from (by rw[AR h15])) (eC 4 (some ((zI (Int.tmod z7 (64:Int))),(hT 3 [oC q6,oC q7]))) (show _=some ((zI (Int.ofNat k5)),_) from (by rw[AR h16])) (by kernel_rfl)))) (eC 2 (keep (hT 3 [oC q6,oC q7]) (bb (Nat.blt k3 7) (some (.pointer (some ⟨2,(0+k3*2),none⟩))) none)) (AX h17) (eD (keep (hT 3 [oC q6,oC q7]) (bb (Nat.blt k2 2) (some (.pointer (some ⟨2,((0+k3*2)+k2*1),none⟩))) none)) (AX h18) (eD (done (bb (an (Nat.ble (((0+k3*2)+k2*1)+1) (len q7)) true) (some (hT 3 [oC q6,(oC (BM ([(zU (jF .u64 x1 (QW .u64 (Aj .u64 (Np .i64 (G6 .i64 z7 k4) (1:Int))) k5)))]:LV) ((0+k3*2)+k2*1) q7))])) none) undef) (Js h19) (eE)))))) ?_
     replace hm:=Ae hm;obtain⟨h20,hm⟩:=hm
     refine .ghs (fr 38 [(0,zI z6),(2,pt 1 0),(3,(pt 2 0)),(4,zI z7),(7,zI z8),(8,zI z9),(11,zI z10),(12,(zI (Int.ofNat k3)))]) (hT 3 [oC q6,(oC (BM ([(zU (jF .u64 x1 (QW .u64 (Aj .u64 (Np .i64 (G6 .i64 z7 k4) (1:Int))) k5)))]:LV) ((0+k3*2)+k2*1) q7))]) (.k [1,2] [false] [.tmp 2 false,.tmp 3 false] [0,2,3,4,7,8,11,12] ⟨Bq h7,Bq h20,trivial⟩) ?_
     refine .rK ?_
     exact⟨(z6,z7,z8,z9,z10,(Aj .i64 (Int.add (Int.ofNat k3) (1:Int))),q6,(BM ([(zU (jF .u64 x1 (QW .u64 (Aj .u64 (Np .i64 (G6 .i64 z7 k4) (1:Int))) k5)))]:LV) ((0+k3*2)+k2*1) q7)),hm,(.k [1,2] [false] [.tmp 2 false,.tmp 3 false] [0,2,3,4,7,8,11,12] ⟨Bq h7,Bq h20,trivial⟩)⟩
    ·refine DT (AY z11 z10) h9 ?_
     refine .exit ?_
     exact⟨(z6,z8,z9,q6,q7),hm,(.k [1,2] [false] [.tmp 2 false,.tmp 3 false] [0,2,3,7,8] ⟨Bq h7,Bq h8,trivial⟩)⟩
  ·refine DT (AY z2 z1) h4 ?_
   refine .exit ?_
   exact⟨(q2,q3),hm,(.k [1,2] [false] [.tmp 2 false,.tmp 3 false] [2,3] ⟨Bq h2,Bq h3,trivial⟩)⟩
def Ud (pu:Af) (n:Nat) (q0:LV) (q1:LV):OV:=
 (bb (Nat.ble (0+14) (len q0)) (bb (Nat.beq (len (Aq 14 (Am 0 q0))) 14) (bb (an (Nat.ble (0+len (Aq 14 (Am 0 q0))) (len q1)) (Au D6 (Aq 14 (Am 0 q0)))) (bb (Au Ah (BM (Aq 14 (Am 0 q0)) 0 q1)) (bb (Nat.ble (0+14) (len (BM (Aq 14 (Am 0 q0)) 0 q1))) (bb (Fe (.agg ⟨(Aq 14 (Am 0 (BM (Aq 14 (Am 0 q0)) 0 q1)))⟩)) (some (.agg ⟨(Aq 14 (Am 0 (BM (Aq 14 (Am 0 q0)) 0 q1)))⟩)) none) none) none) none) none) none)
def MU (pu:Af) (n:Nat) (ih0:Int→LV→Int→Int→LV→OV) (z0:Int) (q0:LV) (z1 z2:Int) (q1:LV):OV:=
 (bb (Au Ah q0) (bb (Au Ah q1) (bb (AY z0 (2:Int)) (oo (EA z1) none fun k1=>(bb (Nat.blt k1 7) (oo (EA z0) none fun k2=>(bb (Nat.blt k2 2) (oo (AL q0 ((0+k1*2)+k2*1)) none fun v0=>(oo (Bi .u64 v0) none fun x0=>(oo (EA z2) none fun k3=>(bb (Nat.blt k3 7) (bb (Nat.blt k2 2) (oo (AL q0 ((0+k3*2)+k2*1)) none fun v1=>(oo (Bi .u64 v1) none fun x1=>(bb (Nat.blt k1 7) (bb (Nat.blt k2 2) (bb (Nat.blt k3 7) (bb (an (Nat.ble (((0+k1*2)+k2*1)+1) (len q0)) true) (bb (Nat.blt k2 2) (bb (an (Nat.ble (((0+k3*2)+k2*1)+1) (len (BM ([(.int .u64 (Np .u64 x0 x1))]:LV) ((0+k1*2)+k2*1) q0))) true) (bb (Au Ah (BM ([(.int .u64 (jF .u64 x0 x1))]:LV) ((0+k3*2)+k2*1) (BM ([(.int .u64 (Np .u64 x0 x1))]:LV) ((0+k1*2)+k2*1) q0))) (ih0 (Aj .i64 (Int.add (Int.ofNat k2) (1:Int))) (BM ([(.int .u64 (jF .u64 x0 x1))]:LV) ((0+k3*2)+k2*1) (BM ([(.int .u64 (Np .u64 x0 x1))]:LV) ((0+k1*2)+k2*1) q0)) (Int.ofNat k1) (Int.ofNat k3) q1) none) none) none) none) none) none) none))) none) none)))) none)) none)) (Ud pu n q0 q1)) none) none)
def Pp (pu:Af) (n w:Nat):Int→LV→Int→Int→LV→OV:=
 Nat.rec (motive:=fun _=>Int→LV→Int→Int→LV→OV) (fun _ _ _ _ _=>none) (fun _ ih0=>MU pu n ih0) w
def XK (pu:Af) (n:Nat) (q0:LV) (x0 x1:Int):OV:=
 (bb (Au Ah q0) (bb (Au Ah BB) (Pp pu n n (0:Int) q0 x0 x1 BB) none) none)
def m57 (pu:Af) (n:Nat) (args:LV):OV:=
 (ll args none fun a0 args=>(ll args none fun a1 args=>(ll args (oo (Bt a0) none fun q0=>(bb (an (Nat.beq (len q0) 14) (Au Ah q0)) (oo (Bt a1) none fun l0=>(ll l0 none fun v0 l0=>(ll l0 none fun v1 l0=>(ll l0 (oo (Bi .i64 v0) none fun x0=>(oo (Bi .i64 v1) none fun x1=>(XK pu n q0 x0 x1))) fun _ _=>none)))) none)) fun _ _=>none)))
theorem xL (pu:Af) (n:Nat) (q0:LV) (q1:LV) {v:Value} (hm:Ud pu n q0 q1=some v):BN tt (Bb tabs FM pu (inl pu)) 1 VM (fr 41 [(2,pt 1 0),(4,(pt 2 0))]) (hT 3 [oC q0,oC q1]) (Fin tt 1 [.cell 4 86] v):=by
 unfold Ud at hm
 refine .then ?_
 replace hm:=Ae hm;obtain⟨h0,hm⟩:=hm
 replace hm:=Ae hm;obtain⟨h1,hm⟩:=hm
 replace hm:=Ae hm;obtain⟨h2,hm⟩:=hm
 refine .reg (eD (keep (hT 3 [oC q0,oC q1]) (bb (Nat.ble (0+14) (len q0)) (some (.agg ⟨(Aq 14 (Am 0 q0))⟩)) none)) (AX h0) (eD (done (bb (Nat.beq (len (Aq 14 (Am 0 q0))) 14) (bb (an (Nat.ble (0+len (Aq 14 (Am 0 q0))) (len q1)) (Au D6 (Aq 14 (Am 0 q0)))) (some (hT 3 [oC q0,(oC (BM (Aq 14 (Am 0 q0)) 0 q1))])) none) none) undef) (bH h1 h2) (eE))) ?_
 replace hm:=Ae hm;obtain⟨h3,hm⟩:=hm
 refine .ghs (fr 41 [(4,pt 1 0)]) (hT 2 [(oC (BM (Aq 14 (Am 0 q0)) 0 q1))]) (.k [2] [false] [.tmp 4 false] [4] ⟨Bq h3,trivial⟩) ?_
 refine .ret ?_
 replace hm:=Ae hm;obtain⟨h4,hm⟩:=hm
 replace hm:=Ae hm;obtain⟨h5,hm⟩:=hm
 exact kI (.agg ⟨(Aq 14 (Am 0 (BM (Aq 14 (Am 0 q0)) 0 q1)))⟩) (SN (Oh (show Q6 _ _ _ _=some (.agg ⟨(Aq 14 (Am 0 (BM (Aq 14 (Am 0 q0)) 0 q1)))⟩) from (Aex (c:=(Nat.ble (0+14) (len (BM (Aq 14 (Am 0 q0)) 0 q1)))) (by kernel_rfl) h4)) rfl) (by kernel_rfl)) h5 hm
theorem r57 {call:A8} (pu:Af) (n:Nat) (hcall:call=Bb tabs FM pu (inl pu)) {args:LV} {v:Value} (hm:m57 pu n args=some v) (_:∀ x∈args,closed2 x=true):args.length≤41∧BN tt call 1 Qr (Fr.made 41 args) (Ao tabs) (Fin tt 1 [.cell 4 86] v):=by
 subst hcall
 unfold m57 at hm
 replace hm:=Ad hm;obtain⟨a0,args_0,rfl,hm⟩:=hm
 replace hm:=Ad hm;obtain⟨a1,args_1,rfl,hm⟩:=hm
 replace hm:=AC hm;obtain⟨rfl,hm⟩:=hm
 replace hm:=BG hm;obtain⟨q0,rfl,hm⟩:=hm
 replace hm:=Ae hm;obtain⟨h0,hm⟩:=hm
 replace hm:=BG hm;obtain⟨l0,rfl,hm⟩:=hm
 replace hm:=Ad hm;obtain⟨v0,l9447_0,rfl,hm⟩:=hm
 replace hm:=Ad hm;obtain⟨v1,l9447_1,rfl,hm⟩:=hm
 replace hm:=AC hm;obtain⟨rfl,hm⟩:=hm
 replace hm:=Ai hm;obtain⟨x0,rfl,hm⟩:=hm
 replace hm:=Ai hm;obtain⟨x1,rfl,hm⟩:=hm
 unfold XK at hm
 refine⟨by simp,?_⟩
 refine .same (F':=(fr 41 [(0,(.agg ⟨q0⟩)),(1,(.agg ⟨[zI x0,zI x1]⟩))])) (H':=Co) (by kernel_rfl) (by kernel_rfl) ?_
 refine .then (.rK ?_)
 replace hm:=Ae hm;obtain⟨h1,hm⟩:=hm
 replace hm:=Ae hm;obtain⟨h2,hm⟩:=hm
 refine .ghs (fr 41 [(2,pt 1 0),(3,(pt 2 0)),(4,(pt 3 0))]) (hT 4 [oC q0,(oC [zI x0,zI x1]),oC BB]) (.k [1,3] [false] [.tmp 2 false,.tmp 3 false,.tmp 4 false] [2,3,4] ⟨Bq h1,Bq h2,trivial⟩) ?_
 refine .join (v:=v) (fun y:LV×LV=>((fr 41 [(2,pt 1 0),(4,(pt 2 0))]),(hT 3 [(oC y.1),(oC y.2)]))) (fun y=>Ud pu n y.1 y.2) ?_ ?_
 ·rintro⟨q1,q2⟩ hm
  exact xL pu n q1 q2 hm
 ·refine .then (.rK (.ghs (fr 41 [(2,pt 1 0),(3,(pt 2 0)),(4,(pt 3 0)),(8,(zI (0:Int)))]) (hT 4 [oC q0,(oC [zI x0,zI x1]),oC BB]) (.k [1,3] [false] [.tmp 2 false,.tmp 3 false,.tmp 4 false] [2,3,4,8] ⟨Bq h1,Bq h2,trivial⟩) ?_))
  refine .block (.loopM (v:=v) (fun y:Int×LV×Int×Int×LV=>((fr 41 [(2,pt 1 0),(3,(pt 2 0)),(4,(pt 3 0)),(8,(zI y.1))]),(hT 4 [(oC y.2.1),(oC [(zI y.2.2.1),(zI y.2.2.2.1)]),(oC y.2.2.2.2)]))) (fun w y=>Pp pu n w y.1 y.2.1 y.2.2.1 y.2.2.2.1 y.2.2.2.2) n ⟨((0:Int),q0,x0,x1,BB),hm,(.k [1,3] [false] [.tmp 2 false,.tmp 3 false,.tmp 4 false] [2,3,4,8] ⟨Bq h1,Bq h2,trivial⟩)⟩ (fun _=>rfl) ?_)
  rintro w0 ⟨z0,q3,z1,z2,q4⟩ hm
  replace hm:MU pu n (Pp pu n w0) z0 q3 z1 z2 q4=some v:=hm
  unfold MU at hm
  refine .then (.rK ?_)
  replace hm:=Ae hm;obtain⟨h3,hm⟩:=hm
  replace hm:=Ae hm;obtain⟨h4,hm⟩:=hm
  refine .ghs (fr 41 [(2,pt 1 0),(3,(pt 2 0)),(4,(pt 3 0)),(8,zI z0),(9,(zB (AY z0 (2:Int))))]) (hT 4 [oC q3,(oC [zI z1,zI z2]),oC q4]) (.k [1,3] [false] [.tmp 2 false,.tmp 3 false,.tmp 4 false] [2,3,4,8,9] ⟨Bq h3,Bq h4,trivial⟩) ?_
  refine .then ?_
  replace hm:=Ag hm;rcases hm with⟨h5,hm⟩ | ⟨h5,hm⟩
  ·refine DL (AY z0 (2:Int)) h5 ?_
   refine .skip (.ghs (fr 41 [(2,pt 1 0),(3,(pt 2 0)),(4,(pt 3 0)),(8,zI z0)]) (hT 4 [oC q3,(oC [zI z1,zI z2]),oC q4]) (.k [1,3] [false] [.tmp 2 false,.tmp 3 false,.tmp 4 false] [2,3,4,8] ⟨Bq h3,Bq h4,trivial⟩) ?_)
   refine .then (.block (.then (.rK (.ghs (fr 41 [(2,pt 1 0),(3,(pt 2 0)),(4,(pt 3 0)),(5,zI z0),(8,zI z0)]) (hT 4 [oC q3,(oC [zI z1,zI z2]),oC q4]) (.k [1,3] [false] [.tmp 2 false,.tmp 3 false,.tmp 4 false] [2,3,4,5,8] ⟨Bq h3,Bq h4,trivial⟩) ?_))))
   refine .then ?_
   replace hm:=Ab hm;obtain⟨k1,h6,hm⟩:=hm
   obtain rfl:=AR h6
   replace hm:=Ae hm;obtain⟨h7,hm⟩:=hm
   replace hm:=Ab hm;obtain⟨k2,h8,hm⟩:=hm
   obtain rfl:=AR h8
   replace hm:=Ae hm;obtain⟨h9,hm⟩:=hm
   replace hm:=I9 hm;obtain⟨x2,h10,hm⟩:=hm
   replace hm:=Ab hm;obtain⟨k3,h11,hm⟩:=hm
   obtain rfl:=AR h11
   replace hm:=Ae hm;obtain⟨h12,hm⟩:=hm
   replace hm:=Ae hm;obtain⟨h13,hm⟩:=hm
   replace hm:=I9 hm;obtain⟨x3,h14,hm⟩:=hm
   refine .reg (eN 6 (Fr.puts (fr 41 [(2,pt 1 0),(3,(pt 2 0)),(4,(pt 3 0)),(5,(zI (Int.ofNat k2))),(8,(zI (Int.ofNat k2)))]) [(11,(pt 2 0)),(12,(zI (Int.ofNat k1))),(13,(zI (Int.ofNat k2))),(14,(.pointer (some ⟨1,(0+k1*2),none⟩))),(15,(.pointer (some ⟨1,((0+k1*2)+k2*1),none⟩))),(16,(zU x2))]) (hT 4 [oC q3,(oC [(zI (Int.ofNat k1)),(zI (Int.ofNat k3))]),oC q4]) (eC 3 (keep (hT 4 [oC q3,(oC [(zI (Int.ofNat k1)),(zI (Int.ofNat k3))]),oC q4]) (bb (Nat.blt k1 7) (some (.pointer (some ⟨1,(0+k1*2),none⟩))) none)) (AX h7) (eD (keep (hT 4 [oC q3,(oC [(zI (Int.ofNat k1)),(zI (Int.ofNat k3))]),oC q4]) (bb (Nat.blt k2 2) (some (.pointer (some ⟨1,((0+k1*2)+k2*1),none⟩))) none)) (AX h9) (eD (keep (hT 4 [oC q3,(oC [(zI (Int.ofNat k1)),(zI (Int.ofNat k3))]),oC q4]) (AL q3 ((0+k1*2)+k2*1))) (AZ h10) (by kernel_rfl)))) (eC 3 (keep (hT 4 [oC q3,(oC [(zI (Int.ofNat k1)),(zI (Int.ofNat k3))]),oC q4]) (bb (Nat.blt k3 7) (some (.pointer (some ⟨1,(0+k3*2),none⟩))) none)) (AX h12) (eD (keep (hT 4 [oC q3,(oC [(zI (Int.ofNat k1)),(zI (Int.ofNat k3))]),oC q4]) (bb (Nat.blt k2 2) (some (.pointer (some ⟨1,((0+k3*2)+k2*1),none⟩))) none)) (AX h13) (eD (keep (hT 4 [oC q3,(oC [(zI (Int.ofNat k1)),(zI (Int.ofNat k3))]),oC q4]) (AL q3 ((0+k3*2)+k2*1))) (AZ h14) (eE))))) ?_
   refine .ghs (fr 41 [(2,pt 1 0),(3,(pt 2 0)),(4,(pt 3 0)),(5,(zI (Int.ofNat k2))),(6,(zU x2)),(7,(zU x3)),(8,(zI (Int.ofNat k2)))]) (hT 4 [oC q3,(oC [(zI (Int.ofNat k1)),(zI (Int.ofNat k3))]),oC q4]) (.k [1,3] [false] [.tmp 2 false,.tmp 3 false,.tmp 4 false] [2,3,4,5,6,7,8] ⟨Bq h3,Bq h4,trivial⟩) ?_
   replace hm:=Ae hm;obtain⟨h15,hm⟩:=hm
   replace hm:=Ae hm;obtain⟨h16,hm⟩:=hm
   replace hm:=Ae hm;obtain⟨h17,hm⟩:=hm
   replace hm:=Ae hm;obtain⟨h18,hm⟩:=hm
   replace hm:=Ae hm;obtain⟨h19,hm⟩:=hm
   replace hm:=Ae hm;obtain⟨h20,hm⟩:=hm
   refine .reg (eN 15 (Fr.puts (fr 41 [(2,pt 1 0),(3,(pt 2 0)),(4,(pt 3 0)),(5,(zI (Int.ofNat k2))),(6,(zU x2)),(7,(zU x3)),(8,(zI (Int.ofNat k2)))]) [(23,(pt 2 0)),(24,(zI (Int.ofNat k1))),(25,(zI (Int.ofNat k2))),(26,(pt 2 1)),(27,(zI (Int.ofNat k3))),(28,(zI (Int.ofNat k2))),(29,(zU x2)),(30,(zU x3)),(31,(zU (Np .u64 x2 x3))),(32,(zU x2)),(33,(zU x3)),(34,(zU (jF .u64 x2 x3))),(35,(.pointer (some ⟨1,(0+k1*2),none⟩))),(36,(.pointer (some ⟨1,((0+k1*2)+k2*1),none⟩))),(37,(.pointer (some ⟨1,(0+k3*2),none⟩)))]) (hT 4 [oC q3,(oC [(zI (Int.ofNat k1)),(zI (Int.ofNat k3))]),oC q4]) (eC 12 (keep (hT 4 [oC q3,(oC [(zI (Int.ofNat k1)),(zI (Int.ofNat k3))]),oC q4]) (bb (Nat.blt k1 7) (some (.pointer (some ⟨1,(0+k1*2),none⟩))) none)) (AX h15) (eD (keep (hT 4 [oC q3,(oC [(zI (Int.ofNat k1)),(zI (Int.ofNat k3))]),oC q4]) (bb (Nat.blt k2 2) (some (.pointer (some ⟨1,((0+k1*2)+k2*1),none⟩))) none)) (AX h16) (eD (keep (hT 4 [oC q3,(oC [(zI (Int.ofNat k1)),(zI (Int.ofNat k3))]),oC q4]) (bb (Nat.blt k3 7) (some (.pointer (some ⟨1,(0+k3*2),none⟩))) none)) (AX h17) (by kernel_rfl)))) (eD (done (bb (an (Nat.ble (((0+k1*2)+k2*1)+1) (len q3)) true) (some (hT 4 [(oC (BM ([(zU (Np .u64 x2 x3))]:LV) ((0+k1*2)+k2*1) q3)),(oC [(zI (Int.ofNat k1)),(zI (Int.ofNat k3))]),oC q4])) none) undef) (Js h18) (eD (keep (hT 4 [(oC (BM ([(zU (Np .u64 x2 x3))]:LV) ((0+k1*2)+k2*1) q3)),(oC [(zI (Int.ofNat k1)),(zI (Int.ofNat k3))]),oC q4]) (bb (Nat.blt k2 2) (some (.pointer (some ⟨1,((0+k3*2)+k2*1),none⟩))) none)) (AX h19) (eD (done (bb (an (Nat.ble (((0+k3*2)+k2*1)+1) (len (BM ([(zU (Np .u64 x2 x3))]:LV) ((0+k1*2)+k2*1) q3))) true) (some (hT 4 [(oC (BM ([(zU (jF .u64 x2 x3))]:LV) ((0+k3*2)+k2*1) (BM ([(zU (Np .u64 x2 x3))]:LV) ((0+k1*2)+k2*1) q3))),(oC [(zI (Int.ofNat k1)),(zI (Int.ofNat k3))]),oC q4])) none) undef) (Js h20) (eE))))) ?_
   replace hm:=Ae hm;obtain⟨h21,hm⟩:=hm
   refine .ghs (fr 41 [(2,pt 1 0),(3,(pt 2 0)),(4,(pt 3 0)),(8,(zI (Int.ofNat k2)))]) (hT 4 [(oC (BM ([(zU (jF .u64 x2 x3))]:LV) ((0+k3*2)+k2*1) (BM ([(zU (Np .u64 x2 x3))]:LV) ((0+k1*2)+k2*1) q3))),(oC [(zI (Int.ofNat k1)),(zI (Int.ofNat k3))]),oC q4]) (.k [1,3] [false] [.tmp 2 false,.tmp 3 false,.tmp 4 false] [2,3,4,8] ⟨Bq h21,Bq h4,trivial⟩) ?_
   refine .rK ?_
   exact⟨((Aj .i64 (Int.add (Int.ofNat k2) (1:Int))),(BM ([(zU (jF .u64 x2 x3))]:LV) ((0+k3*2)+k2*1) (BM ([(zU (Np .u64 x2 x3))]:LV) ((0+k1*2)+k2*1) q3)),(Int.ofNat k1),(Int.ofNat k3),q4),hm,(.k [1,3] [false] [.tmp 2 false,.tmp 3 false,.tmp 4 false] [2,3,4,8] ⟨Bq h21,Bq h4,trivial⟩)⟩
  ·refine DT (AY z0 (2:Int)) h5 ?_
   refine .exit ?_
   exact⟨(q3,q4),hm,(.k [1,3] [false] [.tmp 2 false,.tmp 4 false] [2,4] ⟨Bq h3,Bq h4,trivial⟩)⟩
def Ue (pu:Af) (n:Nat) (q0:LV) (q1:LV):OV:=
 (bb (Nat.ble (0+14) (len q0)) (bb (Nat.beq (len (Aq 14 (Am 0 q0))) 14) (bb (an (Nat.ble (0+len (Aq 14 (Am 0 q0))) (len q1)) (Au D6 (Aq 14 (Am 0 q0)))) (bb (Au Ah (BM (Aq 14 (Am 0 q0)) 0 q1)) (bb (Nat.ble (0+14) (len (BM (Aq 14 (Am 0 q0)) 0 q1))) (bb (Fe (.agg ⟨(Aq 14 (Am 0 (BM (Aq 14 (Am 0 q0)) 0 q1)))⟩)) (some (.agg ⟨(Aq 14 (Am 0 (BM (Aq 14 (Am 0 q0)) 0 q1)))⟩)) none) none) none) none) none) none)
def RS (pu:Af) (n:Nat) (ih0:Sl→Int→Int→LV→LV→OV) (s0:Sl) (z0 z1:Int) (q0:LV) (q1:LV):OV:=
 (bb (Au Ah q0) (bb (Au Ah q1) (bb (AY z1 z0) (oo (EA z1) none fun k1=>(bb (an (Nat.blt k1 (Sl.n s0)) true) (bb (Nat.ble ((k1*2)+2) (len (Sl.cs s0))) (oo (AL (Sl.cs s0) (k1*2)) none fun v0=>(oo (Bi .i64 v0) none fun x0=>(oo (AL (Sl.cs s0) ((k1*2)+1)) none fun v1=>(oo (Bi .i64 v1) none fun x1=>(bb (Nat.ble (0+14) (len q0)) (oo (pu 57 [(.agg ⟨(Aq 14 (Am 0 q0))⟩),(.agg ⟨[.int .i64 x0,.int .i64 x1]⟩)]) none fun v2=>(oo (Bt v2) none fun q2=>(bb (an (Nat.beq (len q2) 14) (Au Ah q2)) (bb (Au closed2 [(.agg ⟨(Aq 14 (Am 0 q0))⟩),(.agg ⟨[.int .i64 x0,.int .i64 x1]⟩)]) (bb (Nat.beq (len q2) 14) (bb (an (Nat.ble (0+len q2) (len q0)) (Au D6 q2)) (bb (Au Ah (BM q2 0 q0)) (ih0 s0 z0 (Aj .i64 (Int.add (Int.ofNat k1) (1:Int))) (BM q2 0 q0) q1) none) none) none) none) none))) none))))) none) none)) (Ue pu n q0 q1)) none) none)
def RU (pu:Af) (n w:Nat):Sl→Int→Int→LV→LV→OV:=
 Nat.rec (motive:=fun _=>Sl→Int→Int→LV→LV→OV) (fun _ _ _ _ _=>none) (fun _ ih0=>RS pu n ih0) w
def XL (pu:Af) (n:Nat) (q0:LV) (s0:Sl):OV:=
 (bb (Au Ah q0) (bb (Au Ah BB) (RU pu n n s0 (Int.ofNat (Sl.n s0)) (0:Int) q0 BB) none) none)
def m60 (pu:Af) (n:Nat) (args:LV):OV:=
 (ll args none fun a0 args=>(ll args none fun a1 args=>(ll args (oo (Bt a0) none fun q0=>(bb (an (Nat.beq (len q0) 14) (Au Ah q0)) (oo (Bj 2 a1) none fun s0=>(XL pu n q0 s0)) none)) fun _ _=>none)))
theorem xM (pu:Af) (n:Nat) (q0:LV) (q1:LV) {v:Value} (hm:Ue pu n q0 q1=some v):BN tt (Bb tabs FM pu (inl pu)) 1 VU (fr 21 [(2,pt 1 0),(4,(pt 2 0))]) (hT 3 [oC q0,oC q1]) (Fin tt 1 [.cell 4 86] v):=by
 unfold Ue at hm
 refine .then ?_
 replace hm:=Ae hm;obtain⟨h0,hm⟩:=hm
 replace hm:=Ae hm;obtain⟨h1,hm⟩:=hm
 replace hm:=Ae hm;obtain⟨h2,hm⟩:=hm
 refine .reg (eD (keep (hT 3 [oC q0,oC q1]) (bb (Nat.ble (0+14) (len q0)) (some (.agg ⟨(Aq 14 (Am 0 q0))⟩)) none)) (AX h0) (eD (done (bb (Nat.beq (len (Aq 14 (Am 0 q0))) 14) (bb (an (Nat.ble (0+len (Aq 14 (Am 0 q0))) (len q1)) (Au D6 (Aq 14 (Am 0 q0)))) (some (hT 3 [oC q0,(oC (BM (Aq 14 (Am 0 q0)) 0 q1))])) none) none) undef) (bH h1 h2) (eE))) ?_
 replace hm:=Ae hm;obtain⟨h3,hm⟩:=hm
 refine .ghs (fr 21 [(4,pt 1 0)]) (hT 2 [(oC (BM (Aq 14 (Am 0 q0)) 0 q1))]) (.k [2] [false] [.tmp 4 false] [4] ⟨Bq h3,trivial⟩) ?_
 refine .ret ?_
 replace hm:=Ae hm;obtain⟨h4,hm⟩:=hm
 replace hm:=Ae hm;obtain⟨h5,hm⟩:=hm
 exact kI (.agg ⟨(Aq 14 (Am 0 (BM (Aq 14 (Am 0 q0)) 0 q1)))⟩) (SN (Oh (show Q6 _ _ _ _=some (.agg ⟨(Aq 14 (Am 0 (BM (Aq 14 (Am 0 q0)) 0 q1)))⟩) from (Aex (c:=(Nat.ble (0+14) (len (BM (Aq 14 (Am 0 q0)) 0 q1)))) (by kernel_rfl) h4)) rfl) (by kernel_rfl)) h5 hm
theorem r60 {call:A8} (pu:Af) (n:Nat) (hcall:call=Bb tabs FM pu (inl pu)) {args:LV} {v:Value} (hm:m60 pu n args=some v) (_:∀ x∈args,closed2 x=true):args.length≤21∧BN tt call 1 Qs (Fr.made 21 args) (Ao tabs) (Fin tt 1 [.cell 4 86] v):=by
 subst hcall
 unfold m60 at hm
 replace hm:=Ad hm;obtain⟨a0,args_0,rfl,hm⟩:=hm
 replace hm:=Ad hm;obtain⟨a1,args_1,rfl,hm⟩:=hm
 replace hm:=AC hm;obtain⟨rfl,hm⟩:=hm
 replace hm:=BG hm;obtain⟨q0,rfl,hm⟩:=hm
 replace hm:=Ae hm;obtain⟨h0,hm⟩:=hm
 replace hm:=Al hm;obtain⟨s0,rfl,hm⟩:=hm
 unfold XL at hm
 refine⟨by simp,?_⟩
 refine .same (F':=(fr 21 [(0,(.agg ⟨q0⟩)),(1,(Sl.v 2 s0))])) (H':=Co) (by kernel_rfl) (by kernel_rfl) ?_
 refine .then (.rK ?_)
 replace hm:=Ae hm;obtain⟨h1,hm⟩:=hm
 replace hm:=Ae hm;obtain⟨h2,hm⟩:=hm
 refine .ghs (fr 21 [(1,(Sl.v 2 s0)),(2,pt 1 0),(4,(pt 2 0))]) (hT 3 [oC q0,oC BB]) (.k [1,2] [false] [.tmp 2 false,.tmp 4 false] [1,2,4] ⟨Bq h1,Bq h2,trivial⟩) ?_
 refine .join (v:=v) (fun y:LV×LV=>((fr 21 [(2,pt 1 0),(4,(pt 2 0))]),(hT 3 [(oC y.1),(oC y.2)]))) (fun y=>Ue pu n y.1 y.2) ?_ ?_
 ·rintro⟨q1,q2⟩ hm
  exact xM pu n q1 q2 hm
 ·refine .then (.rK (.ghs (fr 21 [(2,pt 1 0),(4,(pt 2 0)),(8,(Sl.v 2 s0)),(9,(zI (Int.ofNat (Sl.n s0)))),(10,(zI (0:Int)))]) (hT 3 [oC q0,oC BB]) (.k [1,2] [false] [.tmp 2 false,.tmp 4 false] [2,4,8,9,10] ⟨Bq h1,Bq h2,trivial⟩) ?_))
  refine .block (.loopM (v:=v) (fun y:Sl×Int×Int×LV×LV=>((fr 21 [(2,pt 1 0),(4,(pt 2 0)),(8,(Sl.v 2 y.1)),(9,(zI y.2.1)),(10,(zI y.2.2.1))]),(hT 3 [(oC y.2.2.2.1),(oC y.2.2.2.2)]))) (fun w y=>RU pu n w y.1 y.2.1 y.2.2.1 y.2.2.2.1 y.2.2.2.2) n ⟨(s0,(Int.ofNat (Sl.n s0)),(0:Int),q0,BB),hm,(.k [1,2] [false] [.tmp 2 false,.tmp 4 false] [2,4,8,9,10] ⟨Bq h1,Bq h2,trivial⟩)⟩ (fun _=>rfl) ?_)
  rintro w0 ⟨s1,z0,z1,q3,q4⟩ hm
  replace hm:RS pu n (RU pu n w0) s1 z0 z1 q3 q4=some v:=hm
  unfold RS at hm
  refine .then (.rK ?_)
  replace hm:=Ae hm;obtain⟨h3,hm⟩:=hm
  replace hm:=Ae hm;obtain⟨h4,hm⟩:=hm
  refine .ghs (fr 21 [(2,pt 1 0),(4,(pt 2 0)),(8,(Sl.v 2 s1)),(9,zI z0),(10,zI z1),(11,(zB (AY z1 z0)))]) (hT 3 [oC q3,oC q4]) (.k [1,2] [false] [.tmp 2 false,.tmp 4 false] [2,4,8,9,10,11] ⟨Bq h3,Bq h4,trivial⟩) ?_
  refine .then ?_
  replace hm:=Ag hm;rcases hm with⟨h5,hm⟩ | ⟨h5,hm⟩
  ·refine DL (AY z1 z0) h5 ?_
   refine .skip (.ghs (fr 21 [(2,pt 1 0),(4,(pt 2 0)),(8,(Sl.v 2 s1)),(9,zI z0),(10,zI z1)]) (hT 3 [oC q3,oC q4]) (.k [1,2] [false] [.tmp 2 false,.tmp 4 false] [2,4,8,9,10] ⟨Bq h3,Bq h4,trivial⟩) ?_)
   refine .then (.block (.then ?_))
   replace hm:=Ab hm;obtain⟨k1,h6,hm⟩:=hm
   obtain rfl:=AR h6
   replace hm:=Ae hm;obtain⟨h7,hm⟩:=hm
   replace hm:=Ae hm;obtain⟨h8,hm⟩:=hm
   replace hm:=I9 hm;obtain⟨x0,h9,hm⟩:=hm
   replace hm:=I9 hm;obtain⟨x1,h10,hm⟩:=hm
   refine .reg (eD (keep (hT 3 [oC q3,oC q4]) (bb (an (Nat.blt k1 (Sl.n s1)) true) (some (Cv (k1*2) (Sl.cs s1))) none)) (AX h7) (eD (keep (hT 3 [oC q3,oC q4]) (bb (Nat.ble ((k1*2)+2) (len (Sl.cs s1))) (some (.agg ⟨Aq 2 (Am (k1*2) (Sl.cs s1))⟩)) none)) (Pd h8 (Ca h9 (Ca h10 rfl))) (eE))) ?_
   refine .ghs (fr 21 [(2,pt 1 0),(4,(pt 2 0)),(6,(pt 3 0)),(8,(Sl.v 2 s1)),(9,zI z0),(10,(zI (Int.ofNat k1)))]) (hT 4 [oC q3,oC q4,(oC [zI x0,zI x1])]) (.k [1,2] [false] [.tmp 2 false,.tmp 4 false,.tmp 6 false] [2,4,6,8,9,10] ⟨Bq h3,Bq h4,trivial⟩) ?_
   refine .then ?_
   replace hm:=Ae hm;obtain⟨h11,hm⟩:=hm
   refine .reg (eD (keep (hT 4 [oC q3,oC q4,(oC [zI x0,zI x1])]) (bb (Nat.ble (0+14) (len q3)) (some (.agg ⟨(Aq 14 (Am 0 q3))⟩)) none)) (AX h11) (eE)) ?_
   replace hm:=Ab hm;obtain⟨v0,h12,hm⟩:=hm
   replace hm:=BG hm;obtain⟨q5,rfl,hm⟩:=hm
   replace hm:=Ae hm;obtain⟨h13,hm⟩:=hm
   replace hm:=Ae hm;obtain⟨h14,hm⟩:=hm
   replace hm:=Ae hm;obtain⟨h15,hm⟩:=hm
   replace hm:=Ae hm;obtain⟨h16,hm⟩:=hm
   refine .reg (eC 2 (bb (Au closed2 [(.agg ⟨(Aq 14 (Am 0 q3))⟩),(.agg ⟨[zI x0,zI x1]⟩)]) (oo (pu 57 [(.agg ⟨(Aq 14 (Am 0 q3))⟩),(.agg ⟨[zI x0,zI x1]⟩)]) none fun v=>some (v,(hT 4 [oC q3,oC q4,(oC [zI x0,zI x1])]))) (oo (CG (RG (hT 4 [oC q3,oC q4,(oC [zI x0,zI x1])])) [(.agg ⟨(Aq 14 (Am 0 q3))⟩),(.agg ⟨[zI x0,zI x1]⟩)]) none fun l1=>oo (pu 57 l1) none fun v=>bb (RH v) (some (v,(hT 4 [oC q3,oC q4,(oC [zI x0,zI x1])]))) none)) (SL h14 h12) (eD (done (bb (Nat.beq (len q5) 14) (bb (an (Nat.ble (0+len q5) (len q3)) (Au D6 q5)) (some (hT 4 [(oC (BM q5 0 q3)),oC q4,(oC [zI x0,zI x1])])) none) none) undef) (bH h15 h16) (eE))) ?_
   replace hm:=Ae hm;obtain⟨h17,hm⟩:=hm
   refine .ghs (fr 21 [(2,pt 1 0),(4,(pt 2 0)),(8,(Sl.v 2 s1)),(9,zI z0),(10,(zI (Int.ofNat k1)))]) (hT 3 [(oC (BM q5 0 q3)),oC q4]) (.k [1,2] [false] [.tmp 2 false,.tmp 4 false] [2,4,8,9,10] ⟨Bq h17,Bq h4,trivial⟩) ?_
   refine .rK ?_
   exact⟨(s1,z0,(Aj .i64 (Int.add (Int.ofNat k1) (1:Int))),(BM q5 0 q3),q4),hm,(.k [1,2] [false] [.tmp 2 false,.tmp 4 false] [2,4,8,9,10] ⟨Bq h17,Bq h4,trivial⟩)⟩
  ·refine DT (AY z1 z0) h5 ?_
   refine .exit ?_
   exact⟨(q3,q4),hm,(.k [1,2] [false] [.tmp 2 false,.tmp 4 false] [2,4] ⟨Bq h3,Bq h4,trivial⟩)⟩
def Uf (pu:Af) (n:Nat):OV:=
 (some (.int .i64 (-1:Int)))
def Ug (pu:Af) (n:Nat) (ih0:Int→Int→LV→OV) (z0 z1:Int) (q0:LV):OV:=
 (bb (Au Ah q0) (ih0 z0 (Aj .i64 (Int.add z1 (1:Int))) q0) none)
def KV (pu:Af) (n:Nat) (ih0:Int→Int→LV→OV) (z0 z1 z2 z3:Int) (q0:LV):OV:=
 (bb (Au Ah q0) (bb (nt (Bd z2 (0:Int))) (oo (pu 85 [.int .u64 z2]) none fun v0=>(oo (Bi .i64 v0) none fun x0=>(some (.int .i64 (Aj .i64 (Int.add (Aj .i64 (Int.mul (64:Int) z1)) x0)))))) (Ug pu n ih0 z0 z3 q0)) none)
def RV (pu:Af) (n:Nat) (ih0:Int→Int→LV→OV) (ih1:Int→Int→Int→Int→Int→LV→OV) (z0 z1 z2 z3 z4:Int) (q0:LV):OV:=
 (bb (Au Ah q0) (bb (AY z3 z0) (oo (EA (Aj .i64 (Int.sub z3 (1:Int)))) none fun k1=>(bb (Nat.blt k1 7) (oo (EA z1) none fun k2=>(bb (Nat.blt k2 2) (oo (AL q0 ((0+k1*2)+k2*1)) none fun v0=>(oo (Bi .u64 v0) none fun x0=>(oo (EA z3) none fun k3=>(bb (Nat.blt k3 7) (bb (Nat.blt k2 2) (oo (AL q0 ((0+k3*2)+k2*1)) none fun v1=>(oo (Bi .u64 v1) none fun x1=>(ih1 z0 (Int.ofNat k2) (jF .u64 z2 (QV .u64 x0 x1)) (Aj .i64 (Int.add (Int.ofNat k3) (1:Int))) z4 q0))) none) none)))) none)) none)) (KV pu n ih0 z0 z1 z2 z4 q0)) none)
def RX (pu:Af) (n:Nat) (ih0:Int→Int→LV→OV) (w:Nat):Int→Int→Int→Int→Int→LV→OV:=
 Nat.rec (motive:=fun _=>Int→Int→Int→Int→Int→LV→OV) (fun _ _ _ _ _ _=>none) (fun _ ih1=>RV pu n ih0 ih1) w
def OG (pu:Af) (n:Nat) (ih0:Int→Int→LV→OV) (z0 z1:Int) (q0:LV):OV:=
 (bb (Au Ah q0) (bb (AY z1 (2:Int)) (RX pu n ih0 n z0 z1 (0:Int) (1:Int) z1 q0) (Uf pu n)) none)
def Gy (pu:Af) (n w:Nat):Int→Int→LV→OV:=
 Nat.rec (motive:=fun _=>Int→Int→LV→OV) (fun _ _ _=>none) (fun _ ih0=>OG pu n ih0) w
def XM (pu:Af) (n:Nat) (q0:LV) (x0:Int):OV:=
 (bb (Au Ah q0) (Gy pu n n x0 (0:Int) q0) none)
def m61 (pu:Af) (n:Nat) (args:LV):OV:=
 (ll args none fun a0 args=>(ll args none fun a1 args=>(ll args (oo (Bt a0) none fun q0=>(bb (an (Nat.beq (len q0) 14) (Au Ah q0)) (oo (Bi .i64 a1) none fun x0=>(XM pu n q0 x0)) none)) fun _ _=>none)))
theorem xN (pu:Af) (n:Nat) {v:Value} (hm:Uf pu n=some v):BN tt (Bb tabs FM pu (inl pu)) 1 VV (fr 38 []) Co (Fin tt 1 [.tmp 4] v):=by
 unfold Uf at hm
 refine .then (.rK (.ghs (fr 38 [(4,(zI (-1:Int)))]) Co (.k0 [false] [] [4]) ?_))
 refine .ret ?_
 exact Cs (zI (-1:Int)) hm
theorem r61 {call:A8} (pu:Af) (n:Nat) (hcall:call=Bb tabs FM pu (inl pu)) {args:LV} {v:Value} (hm:m61 pu n args=some v) (_:∀ x∈args,closed2 x=true):args.length≤38∧BN tt call 1 Qt (Fr.made 38 args) (Ao tabs) (Fin tt 1 [.tmp 4] v):=by
 subst hcall
 unfold m61 at hm
 replace hm:=Ad hm;obtain⟨a0,args_0,rfl,hm⟩:=hm
 replace hm:=Ad hm;obtain⟨a1,args_1,rfl,hm⟩:=hm
 replace hm:=AC hm;obtain⟨rfl,hm⟩:=hm
 replace hm:=BG hm;obtain⟨q0,rfl,hm⟩:=hm
 replace hm:=Ae hm;obtain⟨h0,hm⟩:=hm
 replace hm:=Ai hm;obtain⟨x0,rfl,hm⟩:=hm
 unfold XM at hm
 refine⟨by simp,?_⟩
 refine .same (F':=(fr 38 [(0,(.agg ⟨q0⟩)),(1,zI x0)])) (H':=Co) (by kernel_rfl) (by kernel_rfl) ?_
 refine .then (.rK ?_)
 replace hm:=Ae hm;obtain⟨h1,hm⟩:=hm
 refine .ghs (fr 38 [(1,zI x0),(2,pt 1 0)]) (hT 2 [oC q0]) (.k [1] [false] [.tmp 2 false] [1,2] ⟨Bq h1,trivial⟩) ?_
 refine .join (v:=v) (fun y:Unit=>((fr 38 []),Co)) (fun y=>Uf pu n) ?_ ?_
 ·rintro _ hm
  exact xN pu n hm
 ·refine .then (.rK (.ghs (fr 38 [(1,zI x0),(2,pt 1 0),(8,(zI (0:Int)))]) (hT 2 [oC q0]) (.k [1] [false] [.tmp 2 false] [1,2,8] ⟨Bq h1,trivial⟩) ?_))
  refine .block (.loopM (v:=v) (fun y:Int×Int×LV=>((fr 38 [(1,(zI y.1)),(2,pt 1 0),(8,(zI y.2.1))]),(hT 2 [(oC y.2.2)]))) (fun w y=>Gy pu n w y.1 y.2.1 y.2.2) n ⟨(x0,(0:Int),q0),hm,(.k [1] [false] [.tmp 2 false] [1,2,8] ⟨Bq h1,trivial⟩)⟩ (fun _=>rfl) ?_)
  rintro w0 ⟨z0,z1,q1⟩ hm
  replace hm:OG pu n (Gy pu n w0) z0 z1 q1=some v:=hm
  unfold OG at hm
  refine .then (.rK ?_)
  replace hm:=Ae hm;obtain⟨h2,hm⟩:=hm
  refine .ghs (fr 38 [(1,zI z0),(2,pt 1 0),(8,zI z1),(9,(zB (AY z1 (2:Int))))]) (hT 2 [oC q1]) (.k [1] [false] [.tmp 2 false] [1,2,8,9] ⟨Bq h2,trivial⟩) ?_
  refine .then ?_
  replace hm:=Ag hm;rcases hm with⟨h3,hm⟩ | ⟨h3,hm⟩
  ·refine DL (AY z1 (2:Int)) h3 ?_
   refine .skip (.ghs (fr 38 [(1,zI z0),(2,pt 1 0),(8,zI z1)]) (hT 2 [oC q1]) (.k [1] [false] [.tmp 2 false] [1,2,8] ⟨Bq h2,trivial⟩) ?_)
   refine .join (v:=v) (fun y:Int×Int×LV=>((fr 38 [(1,(zI y.1)),(2,pt 1 0),(8,(zI y.2.1))]),(hT 2 [(oC y.2.2)]))) (fun y=>Ug pu n (Gy pu n w0) y.1 y.2.1 y.2.2) ?_ ?_
   ·rintro⟨z2,z3,q2⟩ hm
    unfold Ug at hm
    refine .rK ?_
    replace hm:=Ae hm;obtain⟨h4,hm⟩:=hm
    exact⟨(z2,(Aj .i64 (Int.add z3 (1:Int))),q2),hm,(.k [1] [false] [.tmp 2 false] [1,2,8] ⟨Bq h4,trivial⟩)⟩
   ·refine .block (.then (.rK (.ghs (fr 38 [(1,zI z0),(2,pt 1 0),(5,zI z1),(8,zI z1)]) (hT 2 [oC q1]) (.k [1] [false] [.tmp 2 false] [1,2,5,8] ⟨Bq h2,trivial⟩) ?_)))
    refine .then (.rK (.ghs (fr 38 [(1,zI z0),(2,pt 1 0),(5,zI z1),(6,(zU (0:Int))),(8,zI z1)]) (hT 2 [oC q1]) (.k [1] [false] [.tmp 2 false] [1,2,5,6,8] ⟨Bq h2,trivial⟩) ?_))
    refine .join (v:=v) (fun y:Int×Int×Int×Int×LV=>((fr 38 [(1,(zI y.1)),(2,pt 1 0),(5,(zI y.2.1)),(6,(zU y.2.2.1)),(8,(zI y.2.2.2.1))]),(hT 2 [(oC y.2.2.2.2)]))) (fun y=>KV pu n (Gy pu n w0) y.1 y.2.1 y.2.2.1 y.2.2.2.1 y.2.2.2.2) ?_ ?_
    ·rintro⟨z4,z5,z6,z7,q3⟩ hm
     unfold KV at hm
     refine .then (.rK ?_)
     replace hm:=Ae hm;obtain⟨h5,hm⟩:=hm
     refine .ghs (fr 38 [(1,zI z4),(2,pt 1 0),(5,zI z5),(6,(zU z6)),(8,zI z7),(31,(zB (nt (Bd z6 (0:Int)))))]) (hT 2 [oC q3]) (.k [1] [false] [.tmp 2 false] [1,2,5,6,8,31] ⟨Bq h5,trivial⟩) ?_
     replace hm:=Ag hm;rcases hm with⟨h6,hm⟩ | ⟨h6,hm⟩
     ·refine DL (nt (Bd z6 (0:Int))) h6 ?_
      refine .then ?_
      replace hm:=I9 hm;obtain⟨x1,h7,hm⟩:=hm
      refine .reg (eC 3 ((oo (pu 85 [(zU z6)]) none fun v=>some (v,(hT 2 [oC q3])))) (AB h7) (eE)) ?_
      refine .ghs (fr 38 [(4,(zI (Aj .i64 (Int.add (Aj .i64 (Int.mul (64:Int) z5)) x1))))]) Co (.k0 [false] [] [4]) ?_
      refine .ret ?_
      exact Cs (zI (Aj .i64 (Int.add (Aj .i64 (Int.mul (64:Int) z5)) x1))) hm
     ·refine DT (nt (Bd z6 (0:Int))) h6 ?_
      refine .skip ?_
      exact⟨(z4,z7,q3),hm,(.k [1] [false] [.tmp 2 false] [1,2,8] ⟨Bq h5,trivial⟩)⟩
    ·refine .then (.rK (.ghs (fr 38 [(1,zI z0),(2,pt 1 0),(5,zI z1),(6,(zU (0:Int))),(7,(zI (1:Int))),(8,zI z1)]) (hT 2 [oC q1]) (.k [1] [false] [.tmp 2 false] [1,2,5,6,7,8] ⟨Bq h2,trivial⟩) ?_))
     refine .block (.loopM (v:=v) (fun y:Int×Int×Int×Int×Int×LV=>((fr 38 [(1,(zI y.1)),(2,pt 1 0),(5,(zI y.2.1)),(6,(zU y.2.2.1)),(7,(zI y.2.2.2.1)),(8,(zI y.2.2.2.2.1))]),(hT 2 [(oC y.2.2.2.2.2)]))) (fun w y=>RX pu n (Gy pu n w0) w y.1 y.2.1 y.2.2.1 y.2.2.2.1 y.2.2.2.2.1 y.2.2.2.2.2) n ⟨(z0,z1,(0:Int),(1:Int),z1,q1),hm,(.k [1] [false] [.tmp 2 false] [1,2,5,6,7,8] ⟨Bq h2,trivial⟩)⟩ (fun _=>rfl) ?_)
     rintro w1 ⟨z8,z9,z10,z11,z12,q4⟩ hm
     replace hm:RV pu n (Gy pu n w0) (RX pu n (Gy pu n w0) w1) z8 z9 z10 z11 z12 q4=some v:=hm
     unfold RV at hm
     refine .then (.then (.rK ?_))
     replace hm:=Ae hm;obtain⟨h8,hm⟩:=hm
     refine .ghs (fr 38 [(1,zI z8),(2,pt 1 0),(5,zI z9),(6,(zU z10)),(7,zI z11),(8,zI z12),(13,(zB (AY z11 z8)))]) (hT 2 [oC q4]) (.k [1] [false] [.tmp 2 false] [1,2,5,6,7,8,13] ⟨Bq h8,trivial⟩) ?_
     replace hm:=Ag hm;rcases hm with⟨h9,hm⟩ | ⟨h9,hm⟩
     ·refine DL (AY z11 z8) h9 ?_
      refine .skip (.ghs (fr 38 [(1,zI z8),(2,pt 1 0),(5,zI z9),(6,(zU z10)),(7,zI z11),(8,zI z12)]) (hT 2 [oC q4]) (.k [1] [false] [.tmp 2 false] [1,2,5,6,7,8] ⟨Bq h8,trivial⟩) ?_)
      refine .then (.block ?_)
      replace hm:=Ab hm;obtain⟨k1,h10,hm⟩:=hm
      replace hm:=Ae hm;obtain⟨h11,hm⟩:=hm
      replace hm:=Ab hm;obtain⟨k2,h12,hm⟩:=hm
      obtain rfl:=AR h12
      replace hm:=Ae hm;obtain⟨h13,hm⟩:=hm
      replace hm:=I9 hm;obtain⟨x2,h14,hm⟩:=hm
      replace hm:=Ab hm;obtain⟨k3,h15,hm⟩:=hm
      obtain rfl:=AR h15
      replace hm:=Ae hm;obtain⟨h16,hm⟩:=hm
      replace hm:=Ae hm;obtain⟨h17,hm⟩:=hm
      replace hm:=I9 hm;obtain⟨x3,h18,hm⟩:=hm
      refine .reg (eN 6 (Fr.puts (fr 38 [(1,zI z8),(2,pt 1 0),(5,(zI (Int.ofNat k2))),(6,(zU z10)),(7,(zI (Int.ofNat k3))),(8,zI z12)]) [(16,(zU z10)),(17,(zI (Int.ofNat k3))),(18,(zI (Int.ofNat k1))),(19,(zI (Int.ofNat k2))),(20,(.pointer (some ⟨1,(0+k1*2),none⟩))),(21,(.pointer (some ⟨1,((0+k1*2)+k2*1),none⟩)))]) (hT 2 [oC q4]) (eC 2 (some ((zI (Aj .i64 (Int.sub (Int.ofNat k3) (1:Int)))),(hT 2 [oC q4]))) (show _=some ((zI (Int.ofNat k1)),_) from (by rw[AR h10])) (eC 1 (keep (hT 2 [oC q4]) (bb (Nat.blt k1 7) (some (.pointer (some ⟨1,(0+k1*2),none⟩))) none)) (AX h11) (eD (keep (hT 2 [oC q4]) (bb (Nat.blt k2 2) (some (.pointer (some ⟨1,((0+k1*2)+k2*1),none⟩))) none)) (AX h13) (by kernel_rfl)))) (eD (keep (hT 2 [oC q4]) (AL q4 ((0+k1*2)+k2*1))) (AZ h14) (eC 2 (keep (hT 2 [oC q4]) (bb (Nat.blt k3 7) (some (.pointer (some ⟨1,(0+k3*2),none⟩))) none)) (AX h16) (eD (keep (hT 2 [oC q4]) (bb (Nat.blt k2 2) (some (.pointer (some ⟨1,((0+k3*2)+k2*1),none⟩))) none)) (AX h17) (eD (keep (hT 2 [oC q4]) (AL q4 ((0+k3*2)+k2*1))) (AZ h18) (eE)))))) ?_
      refine .ghs (fr 38 [(1,zI z8),(2,pt 1 0),(5,(zI (Int.ofNat k2))),(6,(zU (jF .u64 z10 (QV .u64 x2 x3)))),(7,(zI (Int.ofNat k3))),(8,zI z12)]) (hT 2 [oC q4]) (.k [1] [false] [.tmp 2 false] [1,2,5,6,7,8] ⟨Bq h8,trivial⟩) ?_
      refine .rK ?_
      exact⟨(z8,(Int.ofNat k2),(jF .u64 z10 (QV .u64 x2 x3)),(Aj .i64 (Int.add (Int.ofNat k3) (1:Int))),z12,q4),hm,(.k [1] [false] [.tmp 2 false] [1,2,5,6,7,8] ⟨Bq h8,trivial⟩)⟩
     ·refine DT (AY z11 z8) h9 ?_
      refine .exit ?_
      exact⟨(z8,z9,z10,z12,q4),hm,(.k [1] [false] [.tmp 2 false] [1,2,5,6,8] ⟨Bq h8,trivial⟩)⟩
  ·refine DT (AY z1 (2:Int)) h3 ?_
   refine .exit ?_
   exact⟨(),hm,(.k0 [false] [] [])⟩
end
end Go.TbWM
