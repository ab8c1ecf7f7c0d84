/- Made from wip. -/
import Derived.Test.YtokbaaeimejjlaaDoorBkOMod0x

set_option maxRecDepth 100000
set_option maxHeartbeats 20000000
set_option linter.unusedVariables false
namespace Go.BkOM
open Go.Sp Go.BkO
noncomputable section
def fE (pu:Af) (n:Nat):OV:=
 (oo (pu 19 []) none fun v0=>(oo (Bf v0) none fun b0=>(some (.bool b0))))
def ZI (pu:Af) (n:Nat) (ih0:Sl→Sl→Sl→Int→Int→Int→Int→Int→Sl→OV) (s0 s1 s2:Sl) (z0 z1 z2 z3 z4:Int) (s3:Sl):OV:=
 (ih0 s0 s1 s2 z0 (Aj .i64 (Int.add z1 (1:Int))) z2 z3 z4 s3)
def ZJ (pu:Af) (n:Nat) (ih0:Sl→Sl→Sl→Int→Int→Int→Int→Int→Sl→OV) (ih1:Sl→Sl→Sl→Int→Sl→Int→Int→Sl→Int→Int→Int→Int→Int→Sl→OV) (s0 s1 s2:Sl) (z0:Int) (s3:Sl) (z1 z2:Int) (s4:Sl) (z3 z4:Int) (b0:Bool) (z5 z6 z7:Int) (s5:Sl):OV:=
 (bb b0 (some (.bool false)) (ih1 s0 s1 s2 z0 s3 z1 z2 s4 z3 (Aj .i64 (Int.add z4 (1:Int))) z5 z6 z7 s5))
def VZ (pu:Af) (n:Nat) (ih0:Sl→Sl→Sl→Int→Int→Int→Int→Int→Sl→OV) (ih1:Sl→Sl→Sl→Int→Sl→Int→Int→Sl→Int→Int→Int→Int→Int→Sl→OV) (s0 s1 s2:Sl) (z0:Int) (s3:Sl) (z1 z2:Int) (s4:Sl) (z3 z4 z5 z6 z7:Int) (s5:Sl):OV:=
 (bb (AY z4 z3) (oo (EA z4) none fun k1=>(bb (an (Nat.blt k1 (Sl.n s4)) true) (oo (AL (Sl.cs s4) (k1*1)) none fun v0=>(oo (Bi .i64 v0) none fun x0=>(bb (AY x0 z0) (oo (pu 10 [Sl.v 1 s0,.int .i64 z5,.int .i64 z6,.int .i64 x0]) none fun v1=>(oo (Bj 1 v1) none fun s6=>(oo (pu 10120 [Sl.v 1 s6,Sl.v 1 s2]) none fun v2=>(oo (CQ v2) none fun l0=>(ll l0 none fun v3 l0=>(ll l0 (oo (Bf v3) none fun b0=>(ZJ pu n ih0 ih1 s0 s1 s2 z0 s3 z1 z2 s4 z3 (Int.ofNat k1) b0 z5 z6 z7 s5)) fun _ _=>none)))))) (ZJ pu n ih0 ih1 s0 s1 s2 z0 s3 z1 z2 s4 z3 (Int.ofNat k1) false z5 z6 z7 s5)))) none)) (ZI pu n ih0 s0 s1 s3 z1 z2 z5 z6 z7 s5))
def V3 (pu:Af) (n:Nat) (ih0:Sl→Sl→Sl→Int→Int→Int→Int→Int→Sl→OV) (w:Nat):Sl→Sl→Sl→Int→Sl→Int→Int→Sl→Int→Int→Int→Int→Int→Sl→OV:=
 Nat.rec (motive:=fun _=>Sl→Sl→Sl→Int→Sl→Int→Int→Sl→Int→Int→Int→Int→Int→Sl→OV) (fun _ _ _ _ _ _ _ _ _ _ _ _ _ _=>none) (fun _ ih1=>VZ pu n ih0 ih1) w
def SA (pu:Af) (n:Nat) (ih0:Sl→Sl→Sl→Int→Int→Int→Int→Int→Sl→OV) (s0 s1 s2:Sl) (z0:Int) (s3:Sl) (z1 z2:Int) (b0:Bool) (z3 z4 z5:Int) (s4:Sl):OV:=
 (bb b0 (some (.bool false)) (V3 pu n ih0 n s0 s1 s2 z0 s3 z1 z2 s4 (Int.ofNat (Sl.n s4)) (0:Int) z3 z4 z5 s4))
def V4 (pu:Af) (n:Nat) (ih0:Sl→Sl→Sl→Int→Int→Int→Int→Int→Sl→OV) (s0 s1 s2:Sl) (z0 z1 z2 z3 z4:Int) (s3:Sl):OV:=
 (bb (AY z1 z0) (oo (EA z1) none fun k1=>(bb (an (Nat.blt k1 (Sl.n s2)) true) (oo (AL (Sl.cs s2) (k1*1)) none fun v0=>(oo (Bj 1 v0) none fun s4=>(oo (pu 17 [(.agg ⟨[.int .i64 z2,.int .i64 z3,.int .i64 z4,Sl.v 1 s3]⟩),Sl.v 1 s4]) none fun v1=>(oo (CQ v1) none fun l0=>(ll l0 none fun v2 l0=>(ll l0 none fun v3 l0=>(ll l0 (oo (Bj 1 v2) none fun s5=>(oo (Bi .i64 v3) none fun x0=>(oo (pu 18 [(.agg ⟨[.int .i64 z2,.int .i64 z3,.int .i64 z4,Sl.v 1 s3]⟩),Sl.v 1 s0,Sl.v 1 s4]) none fun v4=>(oo (CQ v4) none fun l1=>(ll l1 none fun v5 l1=>(ll l1 none fun v6 l1=>(ll l1 (oo (Bi .i64 v5) none fun x1=>(oo (Bi .i64 v6) none fun x2=>(bb (nt (Bd x0 (0:Int))) (SA pu n ih0 s0 s1 s4 x1 s2 z0 (Int.ofNat k1) true z2 z3 z4 s3) (bb (nt (Bd x2 (0:Int))) (SA pu n ih0 s0 s1 s4 x1 s2 z0 (Int.ofNat k1) true z2 z3 z4 s3) (bb (an (Nat.blt 0 (Sl.n s1)) true) (oo (AL (Sl.cs s1) (0*1)) none fun v7=>(oo (Bj 1 v7) none fun s6=>(oo (pu 10120 [Sl.v 1 s5,Sl.v 1 s6]) none fun v8=>(oo (CQ v8) none fun l2=>(ll l2 none fun v9 l2=>(ll l2 (oo (Bf v9) none fun b0=>(bb (nt b0) (SA pu n ih0 s0 s1 s4 x1 s2 z0 (Int.ofNat k1) true z2 z3 z4 s3) (bb (AY x1 (0:Int)) (SA pu n ih0 s0 s1 s4 x1 s2 z0 (Int.ofNat k1) true z2 z3 z4 s3) (bb (AY (7:Int) x1) (SA pu n ih0 s0 s1 s4 x1 s2 z0 (Int.ofNat k1) true z2 z3 z4 s3) (oo (pu 10 [Sl.v 1 s0,.int .i64 z2,.int .i64 z3,.int .i64 x1]) none fun v10=>(oo (Bj 1 v10) none fun s7=>(oo (pu 10120 [Sl.v 1 s7,Sl.v 1 s4]) none fun v11=>(oo (CQ v11) none fun l3=>(ll l3 none fun v12 l3=>(ll l3 (oo (Bf v12) none fun b1=>(SA pu n ih0 s0 s1 s4 x1 s2 z0 (Int.ofNat k1) (nt b1) z2 z3 z4 s3)) fun _ _=>none)))))))))) fun _ _=>none)))))) none))))) fun _ _=>none))))))) fun _ _=>none))))))) none)) (fE pu n))
def K8 (pu:Af) (n w:Nat):Sl→Sl→Sl→Int→Int→Int→Int→Int→Sl→OV:=
 Nat.rec (motive:=fun _=>Sl→Sl→Sl→Int→Int→Int→Int→Int→Sl→OV) (fun _ _ _ _ _ _ _ _ _=>none) (fun _ ih0=>V4 pu n ih0) w
def Ug (pu:Af) (n:Nat) (s0 s1:Sl) (b0:Bool) (z0 z1 z2:Int) (s2:Sl):OV:=
 (bb b0 (some (.bool false)) (K8 pu n n s0 s1 s1 (Int.ofNat (Sl.n s1)) (0:Int) z0 z1 z2 s2))
def V5 (pu:Af) (n:Nat) (s0:Sl) (n0 c0 n1 c1:Nat) (z0 z1 z2:Int) (s1:Sl) (q0:LV) (q1:LV):OV:=
 (oo (pu 14 [(.agg ⟨[.int .i64 z0,.int .i64 z1,.int .i64 z2,Sl.v 1 s1]⟩),Sl.v 1 s0]) none fun v0=>(oo (CQ v0) none fun l0=>(ll l0 none fun v1 l0=>(ll l0 none fun v2 l0=>(ll l0 (oo (Bj 1 v1) none fun s2=>(oo (Bi .i64 v2) none fun x0=>(bb (Au Ah q0) (bb (Au Ah q1) (oo (pu 15 [(.agg ⟨[.int .i64 z0,.int .i64 z1,.int .i64 z2,Sl.v 1 s1]⟩),Sl.v 1 s0]) none fun v3=>(oo (CQ v3) none fun l1=>(ll l1 none fun v4 l1=>(ll l1 none fun v5 l1=>(ll l1 (oo (Bj 1 v4) none fun s3=>(oo (Bi .i64 v5) none fun x1=>(bb (an (Nat.ble (0+n0*1) (len q0)) (Au Ah (Aq (n0*1) (Am 0 q0)))) (bb (nt (Bd x0 (0:Int))) (Ug pu n s0 (Sl.mk n0 0 (Aq (n0*1) (Am 0 q0))) true z0 z1 z2 s1) (bb (nt (Bd x1 (0:Int))) (Ug pu n s0 (Sl.mk n0 0 (Aq (n0*1) (Am 0 q0))) true z0 z1 z2 s1) (oo (pu 10160 [Sl.v 1 s2,(Sl.v 1 (Sl.mk n0 0 (Aq (n0*1) (Am 0 q0))))]) none fun v6=>(oo (CQ v6) none fun l2=>(ll l2 none fun v7 l2=>(ll l2 (oo (Bf v7) none fun b0=>(bb (nt b0) (Ug pu n s0 (Sl.mk n0 0 (Aq (n0*1) (Am 0 q0))) true z0 z1 z2 s1) (bb (an (Nat.ble (0+n1*1) (len q1)) (Au Ah (Aq (n1*1) (Am 0 q1)))) (oo (pu 10120 [Sl.v 1 s3,(Sl.v 1 (Sl.mk n1 0 (Aq (n1*1) (Am 0 q1))))]) none fun v8=>(oo (CQ v8) none fun l3=>(ll l3 none fun v9 l3=>(ll l3 (oo (Bf v9) none fun b1=>(bb (nt b1) (Ug pu n s0 (Sl.mk n0 0 (Aq (n0*1) (Am 0 q0))) true z0 z1 z2 s1) (Ug pu n s0 (Sl.mk n0 0 (Aq (n0*1) (Am 0 q0))) (nt (Bd (Aj .i64 (Int.mul (Int.ofNat (Sl.n s2)) (Int.ofNat (Sl.n s3)))) (Int.ofNat (Sl.n s1)))) z0 z1 z2 s1))) fun _ _=>none)))) none))) fun _ _=>none)))))) none))) fun _ _=>none))))) none) none))) fun _ _=>none)))))
def QD (pu:Af) (n:Nat) (ih0:Sl→Nat→Nat→Nat→Nat→Int→Int→Int→Int→Int→Sl→LV→LV→OV) (s0:Sl) (n0 c0 n1 c1:Nat) (z0 z1 z2 z3 z4:Int) (s1:Sl) (q0:LV) (q1:LV):OV:=
 (bb (Au Ah q0) (bb (Au Ah q1) (ih0 s0 n0 c0 n1 c1 z0 (Aj .i64 (Int.add z1 (1:Int))) z2 z3 z4 s1 q0 q1) none) none)
def Uh (pu:Af) (n:Nat) (ih0:Sl→Nat→Nat→Nat→Nat→Int→Int→Int→Int→Int→Sl→LV→LV→OV) (ih1:Sl→Nat→Nat→Nat→Nat→Int→Int→Int→Int→Int→Int→Sl→LV→LV→OV) (s0:Sl) (n0 c0 n1 c1:Nat) (z0 z1 z2 z3 z4 z5:Int) (s1:Sl) (q0:LV) (q1:LV):OV:=
 (bb (Au Ah q0) (bb (Au Ah q1) (ih1 s0 n0 c0 n1 c1 (Aj .i64 (Int.add z0 (1:Int))) z1 z2 z3 z4 z5 s1 q0 q1) none) none)
def OX (pu:Af) (n:Nat) (ih0:Sl→Nat→Nat→Nat→Nat→Int→Int→Int→Int→Int→Sl→LV→LV→OV) (ih1:Sl→Nat→Nat→Nat→Nat→Int→Int→Int→Int→Int→Int→Sl→LV→LV→OV) (s0:Sl) (n0 c0 n1 c1:Nat) (z0 z1 z2 z3 z4 z5:Int) (s1:Sl) (q0:LV) (q1:LV):OV:=
 (bb (Au Ah q0) (bb (Au Ah q1) (bb (AY z0 (Int.ofNat n0)) (oo (EA z0) none fun k1=>(bb (an (Nat.blt k1 n0) true) (oo (AL q0 (0+k1*1)) none fun v0=>(oo (Bj 1 v0) none fun s2=>(oo (EA (Aj .i64 (Int.sub (Int.ofNat k1) (1:Int)))) none fun k2=>(bb (an (Nat.blt k2 n0) true) (oo (AL q0 (0+k2*1)) none fun v1=>(oo (Bj 1 v1) none fun s3=>(oo (pu 13 [Sl.v 1 s2,Sl.v 1 s3]) none fun v2=>(oo (Bf v2) none fun b0=>(bb b0 (oo (EA (Aj .i64 (Int.sub (Int.ofNat k1) (1:Int)))) none fun k3=>(oo (EA (Aj .i64 (Int.sub (Int.ofNat k1) (1:Int)))) none fun k4=>(bb (an (Nat.blt k4 n0) true) (oo (AL q0 (0+k4*1)) none fun v3=>(oo (Bj 1 v3) none fun s4=>(bb (an (Nat.blt k1 n0) true) (oo (AL q0 (0+k1*1)) none fun v4=>(oo (Bj 1 v4) none fun s5=>(bb (an (Nat.blt k1 n0) true) (bb (an (Nat.ble ((0+k1*1)+1) (len q0)) true) (bb (an (Nat.blt k3 n0) true) (bb (an (Nat.ble ((0+k3*1)+1) (len (BM ([Sl.v 1 s4]:LV) (0+k1*1) q0))) true) (bb (Au Ah (BM ([Sl.v 1 s5]:LV) (0+k3*1) (BM ([Sl.v 1 s4]:LV) (0+k1*1) q0))) (Uh pu n ih0 ih1 s0 n0 c0 n1 c1 (Int.ofNat k1) z1 z2 z3 z4 z5 s1 (BM ([Sl.v 1 s5]:LV) (0+k3*1) (BM ([Sl.v 1 s4]:LV) (0+k1*1) q0)) q1) none) none) none) none) none))) none))) none))) (Uh pu n ih0 ih1 s0 n0 c0 n1 c1 (Int.ofNat k1) z1 z2 z3 z4 z5 s1 q0 q1)))))) none)))) none)) (QD pu n ih0 s0 n0 c0 n1 c1 z1 z2 z3 z4 z5 s1 q0 q1)) none) none)
def Nh (pu:Af) (n:Nat) (ih0:Sl→Nat→Nat→Nat→Nat→Int→Int→Int→Int→Int→Sl→LV→LV→OV) (w:Nat):Sl→Nat→Nat→Nat→Nat→Int→Int→Int→Int→Int→Int→Sl→LV→LV→OV:=
 Nat.rec (motive:=fun _=>Sl→Nat→Nat→Nat→Nat→Int→Int→Int→Int→Int→Int→Sl→LV→LV→OV) (fun _ _ _ _ _ _ _ _ _ _ _ _ _ _=>none) (fun _ ih1=>OX pu n ih0 ih1) w
def V6 (pu:Af) (n:Nat) (ih0:Sl→Nat→Nat→Nat→Nat→Int→Int→Int→Int→Int→Sl→LV→LV→OV) (s0:Sl) (n0 c0 n1 c1:Nat) (z0 z1 z2 z3 z4:Int) (s1:Sl) (q0:LV) (q1:LV):OV:=
 (bb (Au Ah q0) (bb (Au Ah q1) (bb (AY z1 z0) (Nh pu n ih0 n s0 n0 c0 n1 c1 (1:Int) z0 z1 z2 z3 z4 s1 q0 q1) (V5 pu n s0 n0 c0 n1 c1 z2 z3 z4 s1 q0 q1)) none) none)
def KY (pu:Af) (n w:Nat):Sl→Nat→Nat→Nat→Nat→Int→Int→Int→Int→Int→Sl→LV→LV→OV:=
 Nat.rec (motive:=fun _=>Sl→Nat→Nat→Nat→Nat→Int→Int→Int→Int→Int→Sl→LV→LV→OV) (fun _ _ _ _ _ _ _ _ _ _ _ _ _=>none) (fun _ ih0=>V6 pu n ih0) w
def XQ (pu:Af) (n:Nat) (s0:Sl) (n0 c0 n1 c1:Nat) (z0 z1 z2:Int) (s1:Sl) (q0:LV) (q1:LV):OV:=
 (bb (Au Ah q0) (bb (Au Ah q1) (KY pu n n s0 n0 c0 n1 c1 (Int.ofNat n0) (0:Int) z0 z1 z2 s1 q0 q1) none) none)
def QE (pu:Af) (n:Nat) (ih0:Sl→Nat→Nat→Nat→Nat→Sl→Int→Int→Int→Int→Int→Sl→LV→LV→OV) (s0:Sl) (n0 c0 n1 c1:Nat) (s1:Sl) (z0 z1 z2 z3 z4:Int) (s2:Sl) (q0:LV) (q1:LV):OV:=
 (bb (Au Ah q0) (bb (Au Ah q1) (ih0 s0 n0 c0 n1 c1 s1 z0 (Aj .i64 (Int.add z1 (1:Int))) z2 z3 z4 s2 q0 q1) none) none)
def OY (pu:Af) (n:Nat) (ih0:Sl→Nat→Nat→Nat→Nat→Sl→Int→Int→Int→Int→Int→Sl→LV→LV→OV) (s0:Sl) (n0 c0 n1 c1:Nat) (s1:Sl) (b0:Bool) (s2:Sl) (z0 z1 z2 z3 z4:Int) (s3:Sl) (q0:LV) (q1:LV):OV:=
 (bb (Au Ah q0) (bb (Au Ah q1) (bb (nt b0) (bb (GV 1 24 n0 c0 1 q0) (bb (Au Ah (Br (Am 0 q0) [Sl.v 1 s1])) (QE pu n ih0 s0 (n0+1) (2*(n0+1)+bb false 1 0) n1 c1 s2 z0 z1 z2 z3 z4 s3 (Br (Am 0 q0) [Sl.v 1 s1]) q1) none) none) (QE pu n ih0 s0 n0 c0 n1 c1 s2 z0 z1 z2 z3 z4 s3 q0 q1)) none) none)
def OZ (pu:Af) (n:Nat) (ih0:Sl→Nat→Nat→Nat→Nat→Sl→Int→Int→Int→Int→Int→Sl→LV→LV→OV) (ih1:Sl→Nat→Nat→Nat→Nat→Sl→Bool→Sl→Int→Int→Nat→Nat→Int→Int→Int→Int→Int→Sl→LV→LV→OV) (s0:Sl) (n0 c0 n1 c1:Nat) (s1:Sl) (b0:Bool) (s2:Sl) (z0 z1:Int) (n2 c2:Nat) (z2 z3 z4 z5 z6:Int) (s3:Sl) (q0:LV) (q1:LV):OV:=
 (bb (Au Ah q0) (bb (Au Ah q1) (bb (AY z3 z2) (oo (EA z3) none fun k1=>(bb (an (Nat.blt k1 n2) true) (oo (AL q0 (0+k1*1)) none fun v0=>(oo (Bj 1 v0) none fun s4=>(bb b0 (ih1 s0 n0 c0 n1 c1 s1 true s2 z0 z1 n2 c2 z2 (Aj .i64 (Int.add (Int.ofNat k1) (1:Int))) z4 z5 z6 s3 q0 q1) (oo (pu 10120 [Sl.v 1 s4,Sl.v 1 s1]) none fun v1=>(oo (CQ v1) none fun l0=>(ll l0 none fun v2 l0=>(ll l0 (oo (Bf v2) none fun b1=>(ih1 s0 n0 c0 n1 c1 s1 b1 s2 z0 z1 n2 c2 z2 (Aj .i64 (Int.add (Int.ofNat k1) (1:Int))) z4 z5 z6 s3 q0 q1)) fun _ _=>none))))))) none)) (OY pu n ih0 s0 n0 c0 n1 c1 s1 b0 s2 z0 z1 z4 z5 z6 s3 q0 q1)) none) none)
def QF (pu:Af) (n:Nat) (ih0:Sl→Nat→Nat→Nat→Nat→Sl→Int→Int→Int→Int→Int→Sl→LV→LV→OV) (w:Nat):Sl→Nat→Nat→Nat→Nat→Sl→Bool→Sl→Int→Int→Nat→Nat→Int→Int→Int→Int→Int→Sl→LV→LV→OV:=
 Nat.rec (motive:=fun _=>Sl→Nat→Nat→Nat→Nat→Sl→Bool→Sl→Int→Int→Nat→Nat→Int→Int→Int→Int→Int→Sl→LV→LV→OV) (fun _ _ _ _ _ _ _ _ _ _ _ _ _ _ _ _ _ _ _ _=>none) (fun _ ih1=>OZ pu n ih0 ih1) w
def QG (pu:Af) (n:Nat) (ih0:Sl→Nat→Nat→Nat→Nat→Sl→Int→Int→Int→Int→Int→Sl→LV→LV→OV) (s0:Sl) (n0 c0 n1 c1:Nat) (s1 s2:Sl) (z0 z1 z2 z3 z4:Int) (s3:Sl) (q0:LV) (q1:LV):OV:=
 (bb (Au Ah q0) (bb (Au Ah q1) (QF pu n ih0 n s0 n0 c0 n1 c1 s1 false s2 z0 z1 n0 c0 (Int.ofNat n0) (0:Int) z2 z3 z4 s3 q0 q1) none) none)
def Ui (pu:Af) (n:Nat) (ih0:Sl→Nat→Nat→Nat→Nat→Sl→Int→Int→Int→Int→Int→Sl→LV→LV→OV) (s0:Sl) (n0 c0 n1 c1:Nat) (z0:Int) (s1 s2:Sl) (z1 z2:Int) (b0:Bool) (z3 z4 z5:Int) (s3:Sl) (q0:LV) (q1:LV):OV:=
 (bb b0 (some (.bool false)) (bb (Au Ah q0) (bb (Au Ah q1) (oo (pu 10120 [Sl.v 1 s0,Sl.v 1 s1]) none fun v0=>(oo (CQ v0) none fun l0=>(ll l0 none fun v1 l0=>(ll l0 (oo (Bf v1) none fun b1=>(bb b1 (bb (GV 1 8 n1 c1 1 q1) (bb (Au Ah (Br (Am 0 q1) [.int .i64 z0])) (QG pu n ih0 s0 n0 c0 (n1+1) (2*(n1+1)+bb false 1 0) s1 s2 z1 z2 z3 z4 z5 s3 q0 (Br (Am 0 q1) [.int .i64 z0])) none) none) (QG pu n ih0 s0 n0 c0 n1 c1 s1 s2 z1 z2 z3 z4 z5 s3 q0 q1))) fun _ _=>none)))) none) none))
def O0 (pu:Af) (n:Nat) (ih0:Sl→Nat→Nat→Nat→Nat→Sl→Int→Int→Int→Int→Int→Sl→LV→LV→OV) (s0:Sl) (n0 c0 n1 c1:Nat) (s1:Sl) (z0 z1 z2 z3 z4:Int) (s2:Sl) (q0:LV) (q1:LV):OV:=
 (bb (Au Ah q0) (bb (Au Ah q1) (bb (AY z1 z0) (oo (EA z1) none fun k1=>(bb (an (Nat.blt k1 (Sl.n s1)) true) (oo (AL (Sl.cs s1) (k1*1)) none fun v0=>(oo (Bi .i64 v0) none fun x0=>(oo (pu 10 [Sl.v 1 s0,.int .i64 z2,.int .i64 z3,.int .i64 x0]) none fun v1=>(oo (Bj 1 v1) none fun s3=>(oo (pu 11 [(.agg ⟨[.int .i64 z2,.int .i64 z3,.int .i64 z4,Sl.v 1 s2]⟩),Sl.v 1 s0,.int .i64 x0]) none fun v2=>(oo (CQ v2) none fun l0=>(ll l0 none fun v3 l0=>(ll l0 none fun v4 l0=>(ll l0 (oo (Bj 1 v3) none fun s4=>(oo (Bi .i64 v4) none fun x1=>(bb (nt (Bd x1 (0:Int))) (Ui pu n ih0 s0 n0 c0 n1 c1 x0 s3 s1 z0 (Int.ofNat k1) true z2 z3 z4 s2 q0 q1) (oo (pu 10120 [Sl.v 1 s3,Sl.v 1 s4]) none fun v5=>(oo (CQ v5) none fun l1=>(ll l1 none fun v6 l1=>(ll l1 (oo (Bf v6) none fun b0=>(Ui pu n ih0 s0 n0 c0 n1 c1 x0 s3 s1 z0 (Int.ofNat k1) (nt b0) z2 z3 z4 s2 q0 q1)) fun _ _=>none))))))) fun _ _=>none))))))))) none)) (XQ pu n s0 n0 c0 n1 c1 z2 z3 z4 s2 q0 q1)) none) none)
def Gl (pu:Af) (n w:Nat):Sl→Nat→Nat→Nat→Nat→Sl→Int→Int→Int→Int→Int→Sl→LV→LV→OV:=
 Nat.rec (motive:=fun _=>Sl→Nat→Nat→Nat→Nat→Sl→Int→Int→Int→Int→Int→Sl→LV→LV→OV) (fun _ _ _ _ _ _ _ _ _ _ _ _ _ _=>none) (fun _ ih0=>O0 pu n ih0) w
def m3_ (pu:Af) (n:Nat) (q1:LV):OV:=
 (bb (Au Ah q1) (bb (Nat.ble (0+20) (len q1)) (oo (pu 9 [(.agg ⟨(Aq 20 (Am 0 q1))⟩),(.int .i64 (4:Int)),(.int .i64 (4:Int))]) none fun v30=>(oo (CQ v30) none fun l32=>(ll l32 none fun v34 l32=>(ll l32 none fun v35 l32=>(ll l32 (oo (Bt v34) none fun l36=>(ll l36 none fun v38 l36=>(ll l36 none fun v39 l36=>(ll l36 none fun v40 l36=>(ll l36 none fun v41 l36=>(ll l36 (oo (Bi .i64 v38) none fun x42=>(oo (Bi .i64 v39) none fun x44=>(oo (Bi .i64 v40) none fun x46=>(oo (Bj 1 v41) none fun s48=>(oo (Bj 1 v35) none fun s50=>(bb (Au closed2 [(.agg ⟨(Aq 20 (Am 0 q1))⟩),(.int .i64 (4:Int)),(.int .i64 (4:Int))]) (Gl pu n n s50 0 0 0 0 s48 (Int.ofNat (Sl.n s48)) (0:Int) x42 x44 x46 s48 ([]:LV) ([]:LV)) none)))))) fun _ _=>none)))))) fun _ _=>none))))) none) none)
def m3 (pu:Af) (n:Nat) (args:LV):OV:=
 (ll args none fun a0 args=>(ll args (oo (Bt a0) none fun q1=>(bb (an (Nat.beq (len q1) 20) (Au Ah q1)) (m3_ pu n q1) none)) fun _ _=>none))
theorem AhD (pu:Af) (n:Nat) {v:Value} (hm:fE pu n=some v):BN tt (Bb tabs isP pu (inl pu)) 1 Yo (fr 244 []) Ay (Fin tt 1 [.tmp 2] v):=by
 unfold fE at hm
 refine .then ?_
 replace hm:=oB hm;obtain⟨b0,h0,hm⟩:=hm
 refine .reg (eD ((oo (pu 19 []) none fun v=>some (v,Ay))) (AB h0) (eE)) ?_
 refine .ghs (fr 244 [(2,zB b0)]) Ay (.k0 [false] [] [2]) ?_
 refine .ret ?_
 exact AO (zB b0) hm
theorem AhE (pu:Af) (n:Nat) (s0:Sl) (n0 c0 n1 c1:Nat) (z0 z1 z2:Int) (s1:Sl) (q0:LV) (q1:LV) {v:Value} (hm:V5 pu n s0 n0 c0 n1 c1 z0 z1 z2 s1 q0 q1=some v):BN tt (Bb tabs isP pu (inl pu)) 1 Yp (fr 244 [(3,pt 1 0),(4,Sl.v 1 s0),(5,sc 2 0 1 n0 c0),(6,sc 3 0 1 n1 c1)]) (hT 4 [(oC [zI z0,zI z1,zI z2,Sl.v 1 s1]),oC q0,oC q1]) (Fin tt 1 [.tmp 2] v):=by
 unfold V5 at hm
 refine .then ?_
 replace hm:=Ab hm;obtain⟨v0,h0,hm⟩:=hm
 replace hm:=Ch hm;obtain⟨l0,rfl,hm⟩:=hm
 replace hm:=Ad hm;obtain⟨v1,l4218_0,rfl,hm⟩:=hm
 replace hm:=Ad hm;obtain⟨v2,l4218_1,rfl,hm⟩:=hm
 replace hm:=AC hm;obtain⟨rfl,hm⟩:=hm
 replace hm:=Al hm;obtain⟨s2,rfl,hm⟩:=hm
 replace hm:=Ai hm;obtain⟨x0,rfl,hm⟩:=hm
 refine .reg (eC 2 ((oo (pu 14 [(.agg ⟨[zI z0,zI z1,zI z2,Sl.v 1 s1]⟩),Sl.v 1 s0]) none fun v=>some (v,(hT 4 [(oC [zI z0,zI z1,zI z2,Sl.v 1 s1]),oC q0,oC q1])))) (AB h0) (eE)) ?_
 replace hm:=Ae hm;obtain⟨h1,hm⟩:=hm
 replace hm:=Ae hm;obtain⟨h2,hm⟩:=hm
 refine .ghs (fr 244 [(3,pt 1 0),(4,Sl.v 1 s0),(5,sc 2 0 1 n0 c0),(6,sc 3 0 1 n1 c1),(16,Sl.v 1 s2),(17,zI x0)]) (hT 4 [(oC [zI z0,zI z1,zI z2,Sl.v 1 s1]),oC q0,oC q1]) (.k [2,3] [false] [.tmp 3 false,.tmp 5 false,.tmp 6 false] [3,4,5,6,16,17] ⟨A7 h1,A7 h2,trivial⟩) ?_
 refine .then ?_
 replace hm:=Ab hm;obtain⟨v3,h3,hm⟩:=hm
 replace hm:=Ch hm;obtain⟨l1,rfl,hm⟩:=hm
 replace hm:=Ad hm;obtain⟨v4,l4240_0,rfl,hm⟩:=hm
 replace hm:=Ad hm;obtain⟨v5,l4240_1,rfl,hm⟩:=hm
 replace hm:=AC hm;obtain⟨rfl,hm⟩:=hm
 replace hm:=Al hm;obtain⟨s3,rfl,hm⟩:=hm
 replace hm:=Ai hm;obtain⟨x1,rfl,hm⟩:=hm
 refine .reg (eC 2 ((oo (pu 15 [(.agg ⟨[zI z0,zI z1,zI z2,Sl.v 1 s1]⟩),Sl.v 1 s0]) none fun v=>some (v,(hT 4 [(oC [zI z0,zI z1,zI z2,Sl.v 1 s1]),oC q0,oC q1])))) (AB h3) (eE)) ?_
 refine .ghs (fr 244 [(3,pt 1 0),(4,Sl.v 1 s0),(5,sc 2 0 1 n0 c0),(6,sc 3 0 1 n1 c1),(16,Sl.v 1 s2),(17,zI x0),(18,Sl.v 1 s3),(19,zI x1)]) (hT 4 [(oC [zI z0,zI z1,zI z2,Sl.v 1 s1]),oC q0,oC q1]) (.k [2,3] [false] [.tmp 3 false,.tmp 5 false,.tmp 6 false] [3,4,5,6,16,17,18,19] ⟨A7 h1,A7 h2,trivial⟩) ?_
 refine .then (.join (v:=v) (fun y:Sl×Sl×Bool×Int×Int×Int×Sl=>((fr 244 [(3,pt 1 0),(4,(Sl.v 1 y.1)),(5,(Sl.v 1 y.2.1)),(166,(zB y.2.2.1))]),(hT 2 [(oC [(zI y.2.2.2.1),(zI y.2.2.2.2.1),(zI y.2.2.2.2.2.1),(Sl.v 1 y.2.2.2.2.2.2)])]))) (fun y=>Ug pu n y.1 y.2.1 y.2.2.1 y.2.2.2.1 y.2.2.2.2.1 y.2.2.2.2.2.1 y.2.2.2.2.2.2) ?_ ?_)
 ·rintro⟨s4,s5,b0,z3,z4,z5,s6⟩ hm
  unfold Ug at hm
  replace hm:=Ag hm;rcases hm with⟨h4,hm⟩ | ⟨h4,hm⟩
  ·refine .ifT b0 (by kernel_rfl) h4 ?_
   refine .then (.rK (.ghs (fr 244 [(2,zB false)]) Ay (.k0 [false] [] [2]) ?_))
   refine .ret ?_
   exact AO (zB false) hm
  ·refine .ifF b0 (by kernel_rfl) h4 ?_
   refine .skip (.ghs (fr 244 [(3,pt 1 0),(4,Sl.v 1 s4),(5,Sl.v 1 s5)]) (hT 2 [(oC [zI z3,zI z4,zI z5,Sl.v 1 s6])]) (.k0 [false] [.tmp 3 false] [3,4,5]) ?_)
   refine .join (v:=v) (fun y:Unit=>((fr 244 []),Ay)) (fun y=>fE pu n) ?_ ?_
   ·rintro _ hm
    exact AhD pu n hm
   ·refine .then (.rK (.ghs (fr 244 [(3,pt 1 0),(4,Sl.v 1 s4),(5,Sl.v 1 s5),(167,Sl.v 1 s5),(168,(zI (Int.ofNat (Sl.n s5)))),(169,(zI (0:Int)))]) (hT 2 [(oC [zI z3,zI z4,zI z5,Sl.v 1 s6])]) (.k0 [false] [.tmp 3 false] [3,4,5,167,168,169]) ?_))
    refine .block (.loopM (v:=v) (fun y:Sl×Sl×Sl×Int×Int×Int×Int×Int×Sl=>((fr 244 [(3,pt 1 0),(4,(Sl.v 1 y.1)),(5,(Sl.v 1 y.2.1)),(167,(Sl.v 1 y.2.2.1)),(168,(zI y.2.2.2.1)),(169,(zI y.2.2.2.2.1))]),(hT 2 [(oC [(zI y.2.2.2.2.2.1),(zI y.2.2.2.2.2.2.1),(zI y.2.2.2.2.2.2.2.1),(Sl.v 1 y.2.2.2.2.2.2.2.2)])]))) (fun w y=>K8 pu n w y.1 y.2.1 y.2.2.1 y.2.2.2.1 y.2.2.2.2.1 y.2.2.2.2.2.1 y.2.2.2.2.2.2.1 y.2.2.2.2.2.2.2.1 y.2.2.2.2.2.2.2.2) n ⟨(s4,s5,s5,(Int.ofNat (Sl.n s5)),(0:Int),z3,z4,z5,s6),hm,(.k0 [false] [.tmp 3 false] [3,4,5,167,168,169])⟩ (fun _=>rfl) ?_)
    rintro w0 ⟨s7,s8,s9,z6,z7,z8,z9,z10,s10⟩ hm
    replace hm:V4 pu n (K8 pu n w0) s7 s8 s9 z6 z7 z8 z9 z10 s10=some v:=hm
    unfold V4 at hm
    refine .then (.rK (.ghs (fr 244 [(3,pt 1 0),(4,Sl.v 1 s7),(5,Sl.v 1 s8),(167,Sl.v 1 s9),(168,zI z6),(169,zI z7),(170,(zB (AY z7 z6)))]) (hT 2 [(oC [zI z8,zI z9,zI z10,Sl.v 1 s10])]) (.k0 [false] [.tmp 3 false] [3,4,5,167,168,169,170]) ?_))
    refine .then ?_
    replace hm:=Ag hm;rcases hm with⟨h5,hm⟩ | ⟨h5,hm⟩
    ·refine BI (AY z7 z6) h5 ?_
     refine .skip (.ghs (fr 244 [(3,pt 1 0),(4,Sl.v 1 s7),(5,Sl.v 1 s8),(167,Sl.v 1 s9),(168,zI z6),(169,zI z7)]) (hT 2 [(oC [zI z8,zI z9,zI z10,Sl.v 1 s10])]) (.k0 [false] [.tmp 3 false] [3,4,5,167,168,169]) ?_)
     refine .join (v:=v) (fun y:Sl×Sl×Sl×Int×Int×Int×Int×Int×Sl=>((fr 244 [(3,pt 1 0),(4,(Sl.v 1 y.1)),(5,(Sl.v 1 y.2.1)),(167,(Sl.v 1 y.2.2.1)),(168,(zI y.2.2.2.1)),(169,(zI y.2.2.2.2.1))]),(hT 2 [(oC [(zI y.2.2.2.2.2.1),(zI y.2.2.2.2.2.2.1),(zI y.2.2.2.2.2.2.2.1),(Sl.v 1 y.2.2.2.2.2.2.2.2)])]))) (fun y=>ZI pu n (K8 pu n w0) y.1 y.2.1 y.2.2.1 y.2.2.2.1 y.2.2.2.2.1 y.2.2.2.2.2.1 y.2.2.2.2.2.2.1 y.2.2.2.2.2.2.2.1 y.2.2.2.2.2.2.2.2) ?_ ?_
     ·rintro⟨s11,s12,s13,z11,z12,z13,z14,z15,s14⟩ hm
      unfold ZI at hm
      refine .rK ?_
      exact⟨(s11,s12,s13,z11,(Aj .i64 (Int.add z12 (1:Int))),z13,z14,z15,s14),hm,(.k0 [false] [.tmp 3 false] [3,4,5,167,168,169])⟩
     ·refine .block (.then ?_)
      replace hm:=Ab hm;obtain⟨k1,h6,hm⟩:=hm
      obtain rfl:=AR h6
      replace hm:=Ae hm;obtain⟨h7,hm⟩:=hm
      replace hm:=oS hm;obtain⟨s15,h8,hm⟩:=hm
      refine .reg (eD (keep (hT 2 [(oC [zI z8,zI z9,zI z10,Sl.v 1 s10])]) (bb (an (Nat.blt k1 (Sl.n s9)) true) (some (Cv (k1*1) (Sl.cs s9))) none)) (AX h7) (eD (keep (hT 2 [(oC [zI z8,zI z9,zI z10,Sl.v 1 s10])]) (AL (Sl.cs s9) (k1*1))) (AZ h8) (eE))) ?_
      refine .ghs (fr 244 [(3,pt 1 0),(4,Sl.v 1 s7),(5,Sl.v 1 s8),(21,Sl.v 1 s15),(167,Sl.v 1 s9),(168,zI z6),(169,(zI (Int.ofNat k1)))]) (hT 2 [(oC [zI z8,zI z9,zI z10,Sl.v 1 s10])]) (.k0 [false] [.tmp 3 false] [3,4,5,21,167,168,169]) ?_
      refine .then ?_
      replace hm:=Ab hm;obtain⟨v6,h9,hm⟩:=hm
      replace hm:=Ch hm;obtain⟨l2,rfl,hm⟩:=hm
      replace hm:=Ad hm;obtain⟨v7,l7549_0,rfl,hm⟩:=hm
      replace hm:=Ad hm;obtain⟨v8,l7549_1,rfl,hm⟩:=hm
      replace hm:=AC hm;obtain⟨rfl,hm⟩:=hm
      replace hm:=Al hm;obtain⟨s16,rfl,hm⟩:=hm
      replace hm:=Ai hm;obtain⟨x2,rfl,hm⟩:=hm
      refine .reg (eC 2 ((oo (pu 17 [(.agg ⟨[zI z8,zI z9,zI z10,Sl.v 1 s10]⟩),Sl.v 1 s15]) none fun v=>some (v,(hT 2 [(oC [zI z8,zI z9,zI z10,Sl.v 1 s10])])))) (AB h9) (eE)) ?_
      refine .ghs (fr 244 [(3,pt 1 0),(4,Sl.v 1 s7),(5,Sl.v 1 s8),(21,Sl.v 1 s15),(22,Sl.v 1 s16),(23,zI x2),(167,Sl.v 1 s9),(168,zI z6),(169,(zI (Int.ofNat k1)))]) (hT 2 [(oC [zI z8,zI z9,zI z10,Sl.v 1 s10])]) (.k0 [false] [.tmp 3 false] [3,4,5,21,22,23,167,168,169]) ?_
      refine .then ?_
      replace hm:=Ab hm;obtain⟨v9,h10,hm⟩:=hm
      replace hm:=Ch hm;obtain⟨l3,rfl,hm⟩:=hm
      replace hm:=Ad hm;obtain⟨v10,l7569_0,rfl,hm⟩:=hm
      replace hm:=Ad hm;obtain⟨v11,l7569_1,rfl,hm⟩:=hm
      replace hm:=AC hm;obtain⟨rfl,hm⟩:=hm
      replace hm:=Ai hm;obtain⟨x3,rfl,hm⟩:=hm
      replace hm:=Ai hm;obtain⟨x4,rfl,hm⟩:=hm
      refine .reg (eC 3 ((oo (pu 18 [(.agg ⟨[zI z8,zI z9,zI z10,Sl.v 1 s10]⟩),Sl.v 1 s7,Sl.v 1 s15]) none fun v=>some (v,(hT 2 [(oC [zI z8,zI z9,zI z10,Sl.v 1 s10])])))) (AB h10) (eE)) ?_
      refine .ghs (fr 244 [(3,pt 1 0),(4,Sl.v 1 s7),(5,Sl.v 1 s8),(21,Sl.v 1 s15),(22,Sl.v 1 s16),(23,zI x2),(24,zI x3),(25,zI x4),(167,Sl.v 1 s9),(168,zI z6),(169,(zI (Int.ofNat k1)))]) (hT 2 [(oC [zI z8,zI z9,zI z10,Sl.v 1 s10])]) (.k0 [false] [.tmp 3 false] [3,4,5,21,22,23,24,25,167,168,169]) ?_
      refine .then (.join (v:=v) (fun y:Sl×Sl×Sl×Int×Sl×Int×Int×Bool×Int×Int×Int×Sl=>((fr 244 [(3,pt 1 0),(4,(Sl.v 1 y.1)),(5,(Sl.v 1 y.2.1)),(21,(Sl.v 1 y.2.2.1)),(24,(zI y.2.2.2.1)),(167,(Sl.v 1 y.2.2.2.2.1)),(168,(zI y.2.2.2.2.2.1)),(169,(zI y.2.2.2.2.2.2.1)),(219,(zB y.2.2.2.2.2.2.2.1))]),(hT 2 [(oC [(zI y.2.2.2.2.2.2.2.2.1),(zI y.2.2.2.2.2.2.2.2.2.1),(zI y.2.2.2.2.2.2.2.2.2.2.1),(Sl.v 1 y.2.2.2.2.2.2.2.2.2.2.2)])]))) (fun y=>SA pu n (K8 pu n w0) y.1 y.2.1 y.2.2.1 y.2.2.2.1 y.2.2.2.2.1 y.2.2.2.2.2.1 y.2.2.2.2.2.2.1 y.2.2.2.2.2.2.2.1 y.2.2.2.2.2.2.2.2.1 y.2.2.2.2.2.2.2.2.2.1 y.2.2.2.2.2.2.2.2.2.2.1 y.2.2.2.2.2.2.2.2.2.2.2) ?_ ?_)
      ·rintro⟨s17,s18,s19,z16,s20,z17,z18,b1,z19,z20,z21,s21⟩ hm
       unfold SA at hm
       replace hm:=Ag hm;rcases hm with⟨h11,hm⟩ | ⟨h11,hm⟩
       ·refine .ifT b1 (by kernel_rfl) h11 ?_
        refine .then (.rK (.ghs (fr 244 [(2,zB false)]) Ay (.k0 [false] [] [2]) ?_))
        refine .ret ?_
        exact AO (zB false) hm
       ·refine .ifF b1 (by kernel_rfl) h11 ?_
        refine .skip (.ghs (fr 244 [(3,pt 1 0),(4,Sl.v 1 s17),(5,Sl.v 1 s18),(21,Sl.v 1 s19),(24,zI z16),(167,Sl.v 1 s20),(168,zI z17),(169,zI z18)]) (hT 2 [(oC [zI z19,zI z20,zI z21,Sl.v 1 s21])]) (.k0 [false] [.tmp 3 false] [3,4,5,21,24,167,168,169]) ?_)
        refine .then (.rK (.ghs (fr 244 [(3,pt 1 0),(4,Sl.v 1 s17),(5,Sl.v 1 s18),(21,Sl.v 1 s19),(24,zI z16),(167,Sl.v 1 s20),(168,zI z17),(169,zI z18),(221,Sl.v 1 s21),(222,(zI (Int.ofNat (Sl.n s21)))),(223,(zI (0:Int)))]) (hT 2 [(oC [zI z19,zI z20,zI z21,Sl.v 1 s21])]) (.k0 [false] [.tmp 3 false] [3,4,5,21,24,167,168,169,221,222,223]) ?_))
        refine .block (.loopM (v:=v) (fun y:Sl×Sl×Sl×Int×Sl×Int×Int×Sl×Int×Int×Int×Int×Int×Sl=>((fr 244 [(3,pt 1 0),(4,(Sl.v 1 y.1)),(5,(Sl.v 1 y.2.1)),(21,(Sl.v 1 y.2.2.1)),(24,(zI y.2.2.2.1)),(167,(Sl.v 1 y.2.2.2.2.1)),(168,(zI y.2.2.2.2.2.1)),(169,(zI y.2.2.2.2.2.2.1)),(221,(Sl.v 1 y.2.2.2.2.2.2.2.1)),(222,(zI y.2.2.2.2.2.2.2.2.1)),(223,(zI y.2.2.2.2.2.2.2.2.2.1))]),(hT 2 [(oC [(zI y.2.2.2.2.2.2.2.2.2.2.1),(zI y.2.2.2.2.2.2.2.2.2.2.2.1),(zI y.2.2.2.2.2.2.2.2.2.2.2.2.1),(Sl.v 1 y.2.2.2.2.2.2.2.2.2.2.2.2.2)])]))) (fun w y=>V3 pu n (K8 pu n w0) w y.1 y.2.1 y.2.2.1 y.2.2.2.1 y.2.2.2.2.1 y.2.2.2.2.2.1 y.2.2.2.2.2.2.1 y.2.2.2.2.2.2.2.1 y.2.2.2.2.2.2.2.2.1 y.2.2.2.2.2.2.2.2.2.1 y.2.2.2.2.2.2.2.2.2.2.1 y.2.2.2.2.2.2.2.2.2.2.2.1 y.2.2.2.2.2.2.2.2.2.2.2.2.1 y.2.2.2.2.2.2.2.2.2.2.2.2.2) n ⟨(s17,s18,s19,z16,s20,z17,z18,s21,(Int.ofNat (Sl.n s21)),(0:Int),z19,z20,z21,s21),hm,(.k0 [false] [.tmp 3 false] [3,4,5,21,24,167,168,169,221,222,223])⟩ (fun _=>rfl) ?_)
        rintro w1 ⟨s22,s23,s24,z22,s25,z23,z24,s26,z25,z26,z27,z28,z29,s27⟩ hm
        replace hm:VZ pu n (K8 pu n w0) (V3 pu n (K8 pu n w0) w1) s22 s23 s24 z22 s25 z23 z24 s26 z25 z26 z27 z28 z29 s27=some v:=hm
        unfold VZ at hm
        refine .then (.rK (.ghs (fr 244 [(3,pt 1 0),(4,Sl.v 1 s22),(5,Sl.v 1 s23),(21,Sl.v 1 s24),(24,zI z22),(167,Sl.v 1 s25),(168,zI z23),(169,zI z24),(221,Sl.v 1 s26),(222,zI z25),(223,zI z26),(224,(zB (AY z26 z25)))]) (hT 2 [(oC [zI z27,zI z28,zI z29,Sl.v 1 s27])]) (.k0 [false] [.tmp 3 false] [3,4,5,21,24,167,168,169,221,222,223,224]) ?_))
        refine .then ?_
        replace hm:=Ag hm;rcases hm with⟨h12,hm⟩ | ⟨h12,hm⟩
        ·refine BI (AY z26 z25) h12 ?_
         refine .skip (.ghs (fr 244 [(3,pt 1 0),(4,Sl.v 1 s22),(5,Sl.v 1 s23),(21,Sl.v 1 s24),(24,zI z22),(167,Sl.v 1 s25),(168,zI z23),(169,zI z24),(221,Sl.v 1 s26),(222,zI z25),(223,zI z26)]) (hT 2 [(oC [zI z27,zI z28,zI z29,Sl.v 1 s27])]) (.k0 [false] [.tmp 3 false] [3,4,5,21,24,167,168,169,221,222,223]) ?_)
         refine .then (.block (.then ?_))
         replace hm:=Ab hm;obtain⟨k2,h13,hm⟩:=hm
         obtain rfl:=AR h13
         replace hm:=Ae hm;obtain⟨h14,hm⟩:=hm
         replace hm:=oI hm;obtain⟨x5,h15,hm⟩:=hm
         refine .reg (eD (keep (hT 2 [(oC [zI z27,zI z28,zI z29,Sl.v 1 s27])]) (bb (an (Nat.blt k2 (Sl.n s26)) true) (some (Cv (k2*1) (Sl.cs s26))) none)) (AX h14) (eD (keep (hT 2 [(oC [zI z27,zI z28,zI z29,Sl.v 1 s27])]) (AL (Sl.cs s26) (k2*1))) (AZ h15) (eE))) ?_
         refine .ghs (fr 244 [(3,pt 1 0),(4,Sl.v 1 s22),(5,Sl.v 1 s23),(21,Sl.v 1 s24),(24,zI z22),(27,zI x5),(167,Sl.v 1 s25),(168,zI z23),(169,zI z24),(221,Sl.v 1 s26),(222,zI z25),(223,(zI (Int.ofNat k2)))]) (hT 2 [(oC [zI z27,zI z28,zI z29,Sl.v 1 s27])]) (.k0 [false] [.tmp 3 false] [3,4,5,21,24,27,167,168,169,221,222,223]) ?_
         refine .join (v:=v) (fun y:Sl×Sl×Sl×Int×Sl×Int×Int×Sl×Int×Int×Bool×Int×Int×Int×Sl=>((fr 244 [(3,pt 1 0),(4,(Sl.v 1 y.1)),(5,(Sl.v 1 y.2.1)),(21,(Sl.v 1 y.2.2.1)),(24,(zI y.2.2.2.1)),(167,(Sl.v 1 y.2.2.2.2.1)),(168,(zI y.2.2.2.2.2.1)),(169,(zI y.2.2.2.2.2.2.1)),(221,(Sl.v 1 y.2.2.2.2.2.2.2.1)),(222,(zI y.2.2.2.2.2.2.2.2.1)),(223,(zI y.2.2.2.2.2.2.2.2.2.1)),(240,(zB y.2.2.2.2.2.2.2.2.2.2.1))]),(hT 2 [(oC [(zI y.2.2.2.2.2.2.2.2.2.2.2.1),(zI y.2.2.2.2.2.2.2.2.2.2.2.2.1),(zI y.2.2.2.2.2.2.2.2.2.2.2.2.2.1),(Sl.v 1 y.2.2.2.2.2.2.2.2.2.2.2.2.2.2)])]))) (fun y=>ZJ pu n (K8 pu n w0) (V3 pu n (K8 pu n w0) w1) y.1 y.2.1 y.2.2.1 y.2.2.2.1 y.2.2.2.2.1 y.2.2.2.2.2.1 y.2.2.2.2.2.2.1 y.2.2.2.2.2.2.2.1 y.2.2.2.2.2.2.2.2.1 y.2.2.2.2.2.2.2.2.2.1 y.2.2.2.2.2.2.2.2.2.2.1 y.2.2.2.2.2.2.2.2.2.2.2.1 y.2.2.2.2.2.2.2.2.2.2.2.2.1 y.2.2.2.2.2.2.2.2.2.2.2.2.2.1 y.2.2.2.2.2.2.2.2.2.2.2.2.2.2) ?_ ?_
         ·rintro⟨s28,s29,s30,z30,s31,z31,z32,s32,z33,z34,b2,z35,z36,z37,s33⟩ hm
          unfold ZJ at hm
          replace hm:=Ag hm;rcases hm with⟨h16,hm⟩ | ⟨h16,hm⟩
          ·refine .ifT b2 (by kernel_rfl) h16 ?_
           refine .then (.rK (.ghs (fr 244 [(2,zB false)]) Ay (.k0 [false] [] [2]) ?_))
           refine .ret ?_
           exact AO (zB false) hm
          ·refine .ifF b2 (by kernel_rfl) h16 ?_
           refine .skip (.ghs (fr 244 [(3,pt 1 0),(4,Sl.v 1 s28),(5,Sl.v 1 s29),(21,Sl.v 1 s30),(24,zI z30),(167,Sl.v 1 s31),(168,zI z31),(169,zI z32),(221,Sl.v 1 s32),(222,zI z33),(223,zI z34)]) (hT 2 [(oC [zI z35,zI z36,zI z37,Sl.v 1 s33])]) (.k0 [false] [.tmp 3 false] [3,4,5,21,24,167,168,169,221,222,223]) ?_)
           refine .rK ?_
           exact⟨(s28,s29,s30,z30,s31,z31,z32,s32,z33,(Aj .i64 (Int.add z34 (1:Int))),z35,z36,z37,s33),hm,(.k0 [false] [.tmp 3 false] [3,4,5,21,24,167,168,169,221,222,223])⟩
         ·replace hm:=Ag hm;rcases hm with⟨h17,hm⟩ | ⟨h17,hm⟩
          ·replace hm:=oS hm;obtain⟨s34,h18,hm⟩:=hm
           replace hm:=Ab hm;obtain⟨v12,h19,hm⟩:=hm
           replace hm:=Ch hm;obtain⟨l4,rfl,hm⟩:=hm
           replace hm:=Ad hm;obtain⟨v13,l7842_0,rfl,hm⟩:=hm
           replace hm:=AC hm;obtain⟨rfl,hm⟩:=hm
           replace hm:=Be hm;obtain⟨b4,rfl,hm⟩:=hm
           refine .reg (eC 2 (some ((zB (AY x5 z22)),(hT 2 [(oC [zI z27,zI z28,zI z29,Sl.v 1 s27])]))) (show _=some ((zB true),_) from (by rw[show (AY x5 z22)=true from h17])) (eC 7 ((oo (pu 10 [Sl.v 1 s22,zI z27,zI z28,zI x5]) none fun v=>some (v,(hT 2 [(oC [zI z27,zI z28,zI z29,Sl.v 1 s27])])))) (AB h18) (eC 1 (EK tabs [[some 1],[some 1]] 2 [] [] (pu 10120) [Sl.v 1 s34,Sl.v 1 s24] (hT 2 [(oC [zI z27,zI z28,zI z29,Sl.v 1 s27])])) (EL (as:=[Sl.v 1 s34,Sl.v 1 s24]) (H1:=(hT 2 [(oC [zI z27,zI z28,zI z29,Sl.v 1 s27])])) (BS (Dm (KQ (CV (z:=1) (v:=(Sl.v 1 s34)) (H:=(hT 2 [(oC [zI z27,zI z28,zI z29,Sl.v 1 s27])])) (by kernel_rfl) (by kernel_rfl) (by kernel_rfl)))) (BS (Dm (KQ (CV (z:=1) (v:=(Sl.v 1 s24)) (H:=(hT 2 [(oC [zI z27,zI z28,zI z29,Sl.v 1 s27])])) (by kernel_rfl) (by kernel_rfl) (by kernel_rfl)))) Gj)) (EI (H2:=(hT 2 [(oC [zI z27,zI z28,zI z29,Sl.v 1 s27])])) (v:=(zB b4)) (v':=(zB b4)) [some 0] [] [] [Sl.v 1 s34,Sl.v 1 s24] [] [] [some 0,none] [] [] (by kernel_rfl) BX (Eq.trans (by kernel_rfl) h19) BX BX)) (eE)))) ?_
           exact⟨(s22,s23,s24,z22,s25,z23,z24,s26,z25,(Int.ofNat k2),b4,z27,z28,z29,s27),hm,(.k0 [false] [.tmp 3 false] [3,4,5,21,24,167,168,169,221,222,223,240])⟩
          ·refine .reg (eC 2 (some ((zB (AY x5 z22)),(hT 2 [(oC [zI z27,zI z28,zI z29,Sl.v 1 s27])]))) (show _=some ((zB false),_) from (by rw[show (AY x5 z22)=false from h17])) (eE)) ?_
           exact⟨(s22,s23,s24,z22,s25,z23,z24,s26,z25,(Int.ofNat k2),false,z27,z28,z29,s27),hm,(.k0 [false] [.tmp 3 false] [3,4,5,21,24,167,168,169,221,222,223,240])⟩
        ·refine BO (AY z26 z25) h12 ?_
         refine .exit ?_
         exact⟨(s22,s23,s25,z23,z24,z27,z28,z29,s27),hm,(.k0 [false] [.tmp 3 false] [3,4,5,167,168,169])⟩
      ·replace hm:=Ag hm;rcases hm with⟨h20,hm⟩ | ⟨h20,hm⟩
       ·refine .reg (eC 1 (some ((zB (nt (Bd x2 (0:Int)))),(hT 2 [(oC [zI z8,zI z9,zI z10,Sl.v 1 s10])]))) (show _=some ((zB true),_) from (by rw[show (nt (Bd x2 (0:Int)))=true from h20])) (eE)) ?_
        exact⟨(s7,s8,s15,x3,s9,z6,(Int.ofNat k1),true,z8,z9,z10,s10),hm,(.k0 [false] [.tmp 3 false] [3,4,5,21,24,167,168,169,219])⟩
       ·replace hm:=Ag hm;rcases hm with⟨h21,hm⟩ | ⟨h21,hm⟩
        ·refine .reg (eC 1 (some ((zB (nt (Bd x2 (0:Int)))),(hT 2 [(oC [zI z8,zI z9,zI z10,Sl.v 1 s10])]))) (show _=some ((zB false),_) from (by rw[show (nt (Bd x2 (0:Int)))=false from h20])) (eC 2 (some ((zB (nt (Bd x4 (0:Int)))),(hT 2 [(oC [zI z8,zI z9,zI z10,Sl.v 1 s10])]))) (show _=some ((zB true),_) from (by rw[show (nt (Bd x4 (0:Int)))=true from h21])) (eE))) ?_
         exact⟨(s7,s8,s15,x3,s9,z6,(Int.ofNat k1),true,z8,z9,z10,s10),hm,(.k0 [false] [.tmp 3 false] [3,4,5,21,24,167,168,169,219])⟩
        ·replace hm:=Ae hm;obtain⟨h22,hm⟩:=hm
         replace hm:=oS hm;obtain⟨s35,h23,hm⟩:=hm
         replace hm:=Ab hm;obtain⟨v14,h24,hm⟩:=hm
         replace hm:=Ch hm;obtain⟨l5,rfl,hm⟩:=hm
         replace hm:=Ad hm;obtain⟨v15,l7890_0,rfl,hm⟩:=hm
         replace hm:=AC hm;obtain⟨rfl,hm⟩:=hm
         replace hm:=Be hm;obtain⟨b5,rfl,hm⟩:=hm
         replace hm:=Ag hm;rcases hm with⟨h25,hm⟩ | ⟨h25,hm⟩
         ·refine .reg (eN 10 (Fr.puts (fr 244 [(3,pt 1 0),(4,Sl.v 1 s7),(5,Sl.v 1 s8),(21,Sl.v 1 s15),(22,Sl.v 1 s16),(23,zI x2),(24,zI x3),(25,zI x4),(167,Sl.v 1 s9),(168,zI z6),(169,(zI (Int.ofNat k1)))]) [(186,zI x2),(187,zB false),(188,zB false),(189,zI x4),(190,zB false),(191,zB false),(192,zB false),(193,Sl.v 1 s16),(194,Sl.v 1 s8),(195,(Cv (0*1) (Sl.cs s8)))]) (hT 2 [(oC [zI z8,zI z9,zI z10,Sl.v 1 s10])]) (eC 1 (some ((zB (nt (Bd x2 (0:Int)))),(hT 2 [(oC [zI z8,zI z9,zI z10,Sl.v 1 s10])]))) (show _=some ((zB false),_) from (by rw[show (nt (Bd x2 (0:Int)))=false from h20])) (eC 2 (some ((zB (nt (Bd x4 (0:Int)))),(hT 2 [(oC [zI z8,zI z9,zI z10,Sl.v 1 s10])]))) (show _=some ((zB false),_) from (by rw[show (nt (Bd x4 (0:Int)))=false from h21])) (eC 4 (keep (hT 2 [(oC [zI z8,zI z9,zI z10,Sl.v 1 s10])]) (bb (an (Nat.blt 0 (Sl.n s8)) true) (some (Cv (0*1) (Sl.cs s8))) none)) (AX h22) (by kernel_rfl)))) (eD (keep (hT 2 [(oC [zI z8,zI z9,zI z10,Sl.v 1 s10])]) (AL (Sl.cs s8) (0*1))) (AZ h23) (eD (EK tabs [[some 1],[some 1]] 2 [] [] (pu 10120) [Sl.v 1 s16,Sl.v 1 s35] (hT 2 [(oC [zI z8,zI z9,zI z10,Sl.v 1 s10])])) (EL (as:=[Sl.v 1 s16,Sl.v 1 s35]) (H1:=(hT 2 [(oC [zI z8,zI z9,zI z10,Sl.v 1 s10])])) (BS (Dm (KQ (CV (z:=1) (v:=(Sl.v 1 s16)) (H:=(hT 2 [(oC [zI z8,zI z9,zI z10,Sl.v 1 s10])])) (by kernel_rfl) (by kernel_rfl) (by kernel_rfl)))) (BS (Dm (KQ (CV (z:=1) (v:=(Sl.v 1 s35)) (H:=(hT 2 [(oC [zI z8,zI z9,zI z10,Sl.v 1 s10])])) (by kernel_rfl) (by kernel_rfl) (by kernel_rfl)))) Gj)) (EI (H2:=(hT 2 [(oC [zI z8,zI z9,zI z10,Sl.v 1 s10])])) (v:=(zB b5)) (v':=(zB b5)) [some 0] [] [] [Sl.v 1 s16,Sl.v 1 s35] [] [] [some 0,none] [] [] (by kernel_rfl) BX (Eq.trans (by kernel_rfl) h24) BX BX)) (eD (some ((zB (nt b5)),(hT 2 [(oC [zI z8,zI z9,zI z10,Sl.v 1 s10])]))) (show _=some ((zB true),_) from (by rw[show (nt b5)=true from h25])) (eE))))) ?_
          exact⟨(s7,s8,s15,x3,s9,z6,(Int.ofNat k1),true,z8,z9,z10,s10),hm,(.k0 [false] [.tmp 3 false] [3,4,5,21,24,167,168,169,219])⟩
         ·replace hm:=Ag hm;rcases hm with⟨h26,hm⟩ | ⟨h26,hm⟩
          ·refine .reg (eN 10 (Fr.puts (fr 244 [(3,pt 1 0),(4,Sl.v 1 s7),(5,Sl.v 1 s8),(21,Sl.v 1 s15),(22,Sl.v 1 s16),(23,zI x2),(24,zI x3),(25,zI x4),(167,Sl.v 1 s9),(168,zI z6),(169,(zI (Int.ofNat k1)))]) [(186,zI x2),(187,zB false),(188,zB false),(189,zI x4),(190,zB false),(191,zB false),(192,zB false),(193,Sl.v 1 s16),(194,Sl.v 1 s8),(195,(Cv (0*1) (Sl.cs s8)))]) (hT 2 [(oC [zI z8,zI z9,zI z10,Sl.v 1 s10])]) (eC 1 (some ((zB (nt (Bd x2 (0:Int)))),(hT 2 [(oC [zI z8,zI z9,zI z10,Sl.v 1 s10])]))) (show _=some ((zB false),_) from (by rw[show (nt (Bd x2 (0:Int)))=false from h20])) (eC 2 (some ((zB (nt (Bd x4 (0:Int)))),(hT 2 [(oC [zI z8,zI z9,zI z10,Sl.v 1 s10])]))) (show _=some ((zB false),_) from (by rw[show (nt (Bd x4 (0:Int)))=false from h21])) (eC 4 (keep (hT 2 [(oC [zI z8,zI z9,zI z10,Sl.v 1 s10])]) (bb (an (Nat.blt 0 (Sl.n s8)) true) (some (Cv (0*1) (Sl.cs s8))) none)) (AX h22) (by kernel_rfl)))) (eD (keep (hT 2 [(oC [zI z8,zI z9,zI z10,Sl.v 1 s10])]) (AL (Sl.cs s8) (0*1))) (AZ h23) (eD (EK tabs [[some 1],[some 1]] 2 [] [] (pu 10120) [Sl.v 1 s16,Sl.v 1 s35] (hT 2 [(oC [zI z8,zI z9,zI z10,Sl.v 1 s10])])) (EL (as:=[Sl.v 1 s16,Sl.v 1 s35]) (H1:=(hT 2 [(oC [zI z8,zI z9,zI z10,Sl.v 1 s10])])) (BS (Dm (KQ (CV (z:=1) (v:=(Sl.v 1 s16)) (H:=(hT 2 [(oC [zI z8,zI z9,zI z10,Sl.v 1 s10])])) (by kernel_rfl) (by kernel_rfl) (by kernel_rfl)))) (BS (Dm (KQ (CV (z:=1) (v:=(Sl.v 1 s35)) (H:=(hT 2 [(oC [zI z8,zI z9,zI z10,Sl.v 1 s10])])) (by kernel_rfl) (by kernel_rfl) (by kernel_rfl)))) Gj)) (EI (H2:=(hT 2 [(oC [zI z8,zI z9,zI z10,Sl.v 1 s10])])) (v:=(zB b5)) (v':=(zB b5)) [some 0] [] [] [Sl.v 1 s16,Sl.v 1 s35] [] [] [some 0,none] [] [] (by kernel_rfl) BX (Eq.trans (by kernel_rfl) h24) BX BX)) (eD (some ((zB (nt b5)),(hT 2 [(oC [zI z8,zI z9,zI z10,Sl.v 1 s10])]))) (show _=some ((zB false),_) from (by rw[show (nt b5)=false from h25])) (eC 3 (some ((zB (AY x3 (0:Int))),(hT 2 [(oC [zI z8,zI z9,zI z10,Sl.v 1 s10])]))) (show _=some ((zB true),_) from (by rw[show (AY x3 (0:Int))=true from h26])) (eE)))))) ?_
           exact⟨(s7,s8,s15,x3,s9,z6,(Int.ofNat k1),true,z8,z9,z10,s10),hm,(.k0 [false] [.tmp 3 false] [3,4,5,21,24,167,168,169,219])⟩
          ·replace hm:=Ag hm;rcases hm with⟨h27,hm⟩ | ⟨h27,hm⟩
           ·refine .reg (eN 10 (Fr.puts (fr 244 [(3,pt 1 0),(4,Sl.v 1 s7),(5,Sl.v 1 s8),(21,Sl.v 1 s15),(22,Sl.v 1 s16),(23,zI x2),(24,zI x3),(25,zI x4),(167,Sl.v 1 s9),(168,zI z6),(169,(zI (Int.ofNat k1)))]) [(186,zI x2),(187,zB false),(188,zB false),(189,zI x4),(190,zB false),(191,zB false),(192,zB false),(193,Sl.v 1 s16),(194,Sl.v 1 s8),(195,(Cv (0*1) (Sl.cs s8)))]) (hT 2 [(oC [zI z8,zI z9,zI z10,Sl.v 1 s10])]) (eC 1 (some ((zB (nt (Bd x2 (0:Int)))),(hT 2 [(oC [zI z8,zI z9,zI z10,Sl.v 1 s10])]))) (show _=some ((zB false),_) from (by rw[show (nt (Bd x2 (0:Int)))=false from h20])) (eC 2 (some ((zB (nt (Bd x4 (0:Int)))),(hT 2 [(oC [zI z8,zI z9,zI z10,Sl.v 1 s10])]))) (show _=some ((zB false),_) from (by rw[show (nt (Bd x4 (0:Int)))=false from h21])) (eC 4 (keep (hT 2 [(oC [zI z8,zI z9,zI z10,Sl.v 1 s10])]) (bb (an (Nat.blt 0 (Sl.n s8)) true) (some (Cv (0*1) (Sl.cs s8))) none)) (AX h22) (by kernel_rfl)))) (eD (keep (hT 2 [(oC [zI z8,zI z9,zI z10,Sl.v 1 s10])]) (AL (Sl.cs s8) (0*1))) (AZ h23) (eD (EK tabs [[some 1],[some 1]] 2 [] [] (pu 10120) [Sl.v 1 s16,Sl.v 1 s35] (hT 2 [(oC [zI z8,zI z9,zI z10,Sl.v 1 s10])])) (EL (as:=[Sl.v 1 s16,Sl.v 1 s35]) (H1:=(hT 2 [(oC [zI z8,zI z9,zI z10,Sl.v 1 s10])])) (BS (Dm (KQ (CV (z:=1) (v:=(Sl.v 1 s16)) (H:=(hT 2 [(oC [zI z8,zI z9,zI z10,Sl.v 1 s10])])) (by kernel_rfl) (by kernel_rfl) (by kernel_rfl)))) (BS (Dm (KQ (CV (z:=1) (v:=(Sl.v 1 s35)) (H:=(hT 2 [(oC [zI z8,zI z9,zI z10,Sl.v 1 s10])])) (by kernel_rfl) (by kernel_rfl) (by kernel_rfl)))) Gj)) (EI (H2:=(hT 2 [(oC [zI z8,zI z9,zI z10,Sl.v 1 s10])])) (v:=(zB b5)) (v':=(zB b5)) [some 0] [] [] [Sl.v 1 s16,Sl.v 1 s35] [] [] [some 0,none] [] [] (by kernel_rfl) BX (Eq.trans (by kernel_rfl) h24) BX BX)) (eD (some ((zB (nt b5)),(hT 2 [(oC [zI z8,zI z9,zI z10,Sl.v 1 s10])]))) (show _=some ((zB false),_) from (by rw[show (nt b5)=false from h25])) (eC 3 (some ((zB (AY x3 (0:Int))),(hT 2 [(oC [zI z8,zI z9,zI z10,Sl.v 1 s10])]))) (show _=some ((zB false),_) from (by rw[show (AY x3 (0:Int))=false from h26])) (eC 3 (some ((zB (AY (7:Int) x3)),(hT 2 [(oC [zI z8,zI z9,zI z10,Sl.v 1 s10])]))) (show _=some ((zB true),_) from (by rw[show (AY (7:Int) x3)=true from h27])) (eE))))))) ?_
            exact⟨(s7,s8,s15,x3,s9,z6,(Int.ofNat k1),true,z8,z9,z10,s10),hm,(.k0 [false] [.tmp 3 false] [3,4,5,21,24,167,168,169,219])⟩
           ·replace hm:=oS hm;obtain⟨s36,h28,hm⟩:=hm
            replace hm:=Ab hm;obtain⟨v16,h29,hm⟩:=hm
            replace hm:=Ch hm;obtain⟨l6,rfl,hm⟩:=hm
            replace hm:=Ad hm;obtain⟨v17,l7906_0,rfl,hm⟩:=hm
            replace hm:=AC hm;obtain⟨rfl,hm⟩:=hm
            replace hm:=Be hm;obtain⟨b6,rfl,hm⟩:=hm
            refine .reg (eN 10 (Fr.puts (fr 244 [(3,pt 1 0),(4,Sl.v 1 s7),(5,Sl.v 1 s8),(21,Sl.v 1 s15),(22,Sl.v 1 s16),(23,zI x2),(24,zI x3),(25,zI x4),(167,Sl.v 1 s9),(168,zI z6),(169,(zI (Int.ofNat k1)))]) [(186,zI x2),(187,zB false),(188,zB false),(189,zI x4),(190,zB false),(191,zB false),(192,zB false),(193,Sl.v 1 s16),(194,Sl.v 1 s8),(195,(Cv (0*1) (Sl.cs s8)))]) (hT 2 [(oC [zI z8,zI z9,zI z10,Sl.v 1 s10])]) (eC 1 (some ((zB (nt (Bd x2 (0:Int)))),(hT 2 [(oC [zI z8,zI z9,zI z10,Sl.v 1 s10])]))) (show _=some ((zB false),_) from (by rw[show (nt (Bd x2 (0:Int)))=false from h20])) (eC 2 (some ((zB (nt (Bd x4 (0:Int)))),(hT 2 [(oC [zI z8,zI z9,zI z10,Sl.v 1 s10])]))) (show _=some ((zB false),_) from (by rw[show (nt (Bd x4 (0:Int)))=false from h21])) (eC 4 (keep (hT 2 [(oC [zI z8,zI z9,zI z10,Sl.v 1 s10])]) (bb (an (Nat.blt 0 (Sl.n s8)) true) (some (Cv (0*1) (Sl.cs s8))) none)) (AX h22) (by kernel_rfl)))) (eN 3 (Fr.puts (fr 244 [(3,pt 1 0),(4,Sl.v 1 s7),(5,Sl.v 1 s8),(21,Sl.v 1 s15),(22,Sl.v 1 s16),(23,zI x2),(24,zI x3),(25,zI x4),(167,Sl.v 1 s9),(168,zI z6),(169,(zI (Int.ofNat k1)))]) [(186,zI x2),(187,zB false),(188,zB false),(189,zI x4),(190,zB false),(191,zB false),(192,zB false),(193,Sl.v 1 s16),(194,Sl.v 1 s8),(195,(Cv (0*1) (Sl.cs s8))),(196,Sl.v 1 s35),(197,zB b5),(198,zB false)]) (hT 2 [(oC [zI z8,zI z9,zI z10,Sl.v 1 s10])]) (eD (keep (hT 2 [(oC [zI z8,zI z9,zI z10,Sl.v 1 s10])]) (AL (Sl.cs s8) (0*1))) (AZ h23) (eD (EK tabs [[some 1],[some 1]] 2 [] [] (pu 10120) [Sl.v 1 s16,Sl.v 1 s35] (hT 2 [(oC [zI z8,zI z9,zI z10,Sl.v 1 s10])])) (EL (as:=[Sl.v 1 s16,Sl.v 1 s35]) (H1:=(hT 2 [(oC [zI z8,zI z9,zI z10,Sl.v 1 s10])])) (BS (Dm (KQ (CV (z:=1) (v:=(Sl.v 1 s16)) (H:=(hT 2 [(oC [zI z8,zI z9,zI z10,Sl.v 1 s10])])) (by kernel_rfl) (by kernel_rfl) (by kernel_rfl)))) (BS (Dm (KQ (CV (z:=1) (v:=(Sl.v 1 s35)) (H:=(hT 2 [(oC [zI z8,zI z9,zI z10,Sl.v 1 s10])])) (by kernel_rfl) (by kernel_rfl) (by kernel_rfl)))) Gj)) (EI (H2:=(hT 2 [(oC [zI z8,zI z9,zI z10,Sl.v 1 s10])])) (v:=(zB b5)) (v':=(zB b5)) [some 0] [] [] [Sl.v 1 s16,Sl.v 1 s35] [] [] [some 0,none] [] [] (by kernel_rfl) BX (Eq.trans (by kernel_rfl) h24) BX BX)) (eD (some ((zB (nt b5)),(hT 2 [(oC [zI z8,zI z9,zI z10,Sl.v 1 s10])]))) (show _=some ((zB false),_) from (by rw[show (nt b5)=false from h25])) (by kernel_rfl)))) (eC 3 (some ((zB (AY x3 (0:Int))),(hT 2 [(oC [zI z8,zI z9,zI z10,Sl.v 1 s10])]))) (show _=some ((zB false),_) from (by rw[show (AY x3 (0:Int))=false from h26])) (eC 3 (some ((zB (AY (7:Int) x3)),(hT 2 [(oC [zI z8,zI z9,zI z10,Sl.v 1 s10])]))) (show _=some ((zB false),_) from (by rw[show (AY (7:Int) x3)=false from h27])) (eC 8 ((oo (pu 10 [Sl.v 1 s7,zI z8,zI z9,zI x3]) none fun v=>some (v,(hT 2 [(oC [zI z8,zI z9,zI z10,Sl.v 1 s10])])))) (AB h28) (eC 1 (EK tabs [[some 1],[some 1]] 2 [] [] (pu 10120) [Sl.v 1 s36,Sl.v 1 s15] (hT 2 [(oC [zI z8,zI z9,zI z10,Sl.v 1 s10])])) (EL (as:=[Sl.v 1 s36,Sl.v 1 s15]) (H1:=(hT 2 [(oC [zI z8,zI z9,zI z10,Sl.v 1 s10])])) (BS (Dm (KQ (CV (z:=1) (v:=(Sl.v 1 s36)) (H:=(hT 2 [(oC [zI z8,zI z9,zI z10,Sl.v 1 s10])])) (by kernel_rfl) (by kernel_rfl) (by kernel_rfl)))) (BS (Dm (KQ (CV (z:=1) (v:=(Sl.v 1 s15)) (H:=(hT 2 [(oC [zI z8,zI z9,zI z10,Sl.v 1 s10])])) (by kernel_rfl) (by kernel_rfl) (by kernel_rfl)))) Gj)) (EI (H2:=(hT 2 [(oC [zI z8,zI z9,zI z10,Sl.v 1 s10])])) (v:=(zB b6)) (v':=(zB b6)) [some 0] [] [] [Sl.v 1 s36,Sl.v 1 s15] [] [] [some 0,none] [] [] (by kernel_rfl) BX (Eq.trans (by kernel_rfl) h29) BX BX)) (eE))))))) ?_
            exact⟨(s7,s8,s15,x3,s9,z6,(Int.ofNat k1),(nt b6),z8,z9,z10,s10),hm,(.k0 [false] [.tmp 3 false] [3,4,5,21,24,167,168,169,219])⟩
    ·refine BO (AY z7 z6) h5 ?_
     refine .exit ?_
     exact⟨(),hm,(.k0 [false] [] [])⟩
 ·replace hm:=Ae hm;obtain⟨h30,hm⟩:=hm
  refine .ghs (Fr.puts (fr 244 [(3,pt 1 0),(4,Sl.v 1 s0),(5,sc 2 0 1 n0 c0),(6,sc 3 0 1 n1 c1),(16,Sl.v 1 s2),(17,zI x0),(18,Sl.v 1 s3),(19,zI x1)]) [(5,(Sl.v 1 (Sl.mk n0 0 (Aq (n0*1) (Am 0 q0)))))]) (hT 4 [(oC [zI z0,zI z1,zI z2,Sl.v 1 s1]),.dead,oC q1]) (.freezeC 1 5 1 (an (Nat.ble (0+n0*1) (len q0)) (Au Ah (Aq (n0*1) (Am 0 q0)))) (F1:=(Fr.puts (fr 244 [(3,pt 1 0),(4,Sl.v 1 s0),(5,sc 2 0 1 n0 c0),(6,sc 3 0 1 n1 c1),(16,Sl.v 1 s2),(17,zI x0),(18,Sl.v 1 s3),(19,zI x1)]) [(5,(Sl.v 1 (Sl.mk n0 0 (Aq (n0*1) (Am 0 q0)))))])) (H1:=(hT 4 [(oC [zI z0,zI z1,zI z2,Sl.v 1 s1]),.dead,oC q1])) (by kernel_rfl) (by kernel_rfl) h30 (E9.id _ _)) ?_
  replace hm:=Ag hm;rcases hm with⟨h31,hm⟩ | ⟨h31,hm⟩
  ·refine .reg (eC 1 (some ((zB (nt (Bd x0 (0:Int)))),(hT 4 [(oC [zI z0,zI z1,zI z2,Sl.v 1 s1]),.dead,oC q1]))) (show _=some ((zB true),_) from (by rw[show (nt (Bd x0 (0:Int)))=true from h31])) (eE)) ?_
   exact⟨(s0,(Sl.mk n0 0 (Aq (n0*1) (Am 0 q0))),true,z0,z1,z2,s1),hm,(.k0 [false] [.tmp 3 false] [3,4,5,166])⟩
  ·replace hm:=Ag hm;rcases hm with⟨h32,hm⟩ | ⟨h32,hm⟩
   ·refine .reg (eC 1 (some ((zB (nt (Bd x0 (0:Int)))),(hT 4 [(oC [zI z0,zI z1,zI z2,Sl.v 1 s1]),.dead,oC q1]))) (show _=some ((zB false),_) from (by rw[show (nt (Bd x0 (0:Int)))=false from h31])) (eC 2 (some ((zB (nt (Bd x1 (0:Int)))),(hT 4 [(oC [zI z0,zI z1,zI z2,Sl.v 1 s1]),.dead,oC q1]))) (show _=some ((zB true),_) from (by rw[show (nt (Bd x1 (0:Int)))=true from h32])) (eE))) ?_
    exact⟨(s0,(Sl.mk n0 0 (Aq (n0*1) (Am 0 q0))),true,z0,z1,z2,s1),hm,(.k0 [false] [.tmp 3 false] [3,4,5,166])⟩
   ·replace hm:=Ab hm;obtain⟨v18,h33,hm⟩:=hm
    replace hm:=Ch hm;obtain⟨l7,rfl,hm⟩:=hm
    replace hm:=Ad hm;obtain⟨v19,l7943_0,rfl,hm⟩:=hm
    replace hm:=AC hm;obtain⟨rfl,hm⟩:=hm
    replace hm:=Be hm;obtain⟨b7,rfl,hm⟩:=hm
    replace hm:=Ag hm;rcases hm with⟨h34,hm⟩ | ⟨h34,hm⟩
    ·refine .reg (eC 1 (some ((zB (nt (Bd x0 (0:Int)))),(hT 4 [(oC [zI z0,zI z1,zI z2,Sl.v 1 s1]),.dead,oC q1]))) (show _=some ((zB false),_) from (by rw[show (nt (Bd x0 (0:Int)))=false from h31])) (eC 2 (some ((zB (nt (Bd x1 (0:Int)))),(hT 4 [(oC [zI z0,zI z1,zI z2,Sl.v 1 s1]),.dead,oC q1]))) (show _=some ((zB false),_) from (by rw[show (nt (Bd x1 (0:Int)))=false from h32])) (eC 4 (EK tabs [[some 1],[some 1]] 2 [] [] (pu 10160) [Sl.v 1 s2,(Sl.v 1 (Sl.mk n0 0 (Aq (n0*1) (Am 0 q0))))] (hT 4 [(oC [zI z0,zI z1,zI z2,Sl.v 1 s1]),.dead,oC q1])) (EL (as:=[Sl.v 1 s2,(Sl.v 1 (Sl.mk n0 0 (Aq (n0*1) (Am 0 q0))))]) (H1:=(hT 4 [(oC [zI z0,zI z1,zI z2,Sl.v 1 s1]),.dead,oC q1])) (BS (Dm (KQ (CV (z:=1) (v:=(Sl.v 1 s2)) (H:=(hT 4 [(oC [zI z0,zI z1,zI z2,Sl.v 1 s1]),.dead,oC q1])) (by kernel_rfl) (by kernel_rfl) (by kernel_rfl)))) (BS (Dm (KQ (CV (z:=1) (v:=(Sl.v 1 (Sl.mk n0 0 (Aq (n0*1) (Am 0 q0))))) (H:=(hT 4 [(oC [zI z0,zI z1,zI z2,Sl.v 1 s1]),.dead,oC q1])) (by kernel_rfl) (by kernel_rfl) (by kernel_rfl)))) Gj)) (EI (H2:=(hT 4 [(oC [zI z0,zI z1,zI z2,Sl.v 1 s1]),.dead,oC q1])) (v:=(zB b7)) (v':=(zB b7)) [some 0] [] [] [Sl.v 1 s2,(Sl.v 1 (Sl.mk n0 0 (Aq (n0*1) (Am 0 q0))))] [] [] [some 0,none,none,none] [] [] (by kernel_rfl) BX (Eq.trans (by kernel_rfl) h33) BX BX)) (eD (some ((zB (nt b7)),(hT 4 [(oC [zI z0,zI z1,zI z2,Sl.v 1 s1]),.dead,oC q1]))) (show _=some ((zB true),_) from (by rw[show (nt b7)=true from h34])) (eE))))) ?_
     exact⟨(s0,(Sl.mk n0 0 (Aq (n0*1) (Am 0 q0))),true,z0,z1,z2,s1),hm,(.k0 [false] [.tmp 3 false] [3,4,5,166])⟩
    ·replace hm:=Ae hm;obtain⟨h35,hm⟩:=hm
     replace hm:=Ab hm;obtain⟨v20,h36,hm⟩:=hm
     replace hm:=Ch hm;obtain⟨l8,rfl,hm⟩:=hm
     replace hm:=Ad hm;obtain⟨v21,l7954_0,rfl,hm⟩:=hm
     replace hm:=AC hm;obtain⟨rfl,hm⟩:=hm
     replace hm:=Be hm;obtain⟨b8,rfl,hm⟩:=hm
     replace hm:=Ag hm;rcases hm with⟨h37,hm⟩ | ⟨h37,hm⟩
     ·refine .reg (eN 10 (Fr.puts (fr 244 [(3,pt 1 0),(4,Sl.v 1 s0),(5,sc 2 0 1 n0 c0),(6,sc 3 0 1 n1 c1),(16,Sl.v 1 s2),(17,zI x0),(18,Sl.v 1 s3),(19,zI x1)]) [(5,(Sl.v 1 (Sl.mk n0 0 (Aq (n0*1) (Am 0 q0))))),(138,zI x0),(139,zB false),(140,zB false),(141,zI x1),(142,zB false),(143,zB false),(144,zB false),(145,Sl.v 1 s2),(146,(Sl.v 1 (Sl.mk n0 0 (Aq (n0*1) (Am 0 q0))))),(147,zB b7)]) (hT 4 [(oC [zI z0,zI z1,zI z2,Sl.v 1 s1]),.dead,oC q1]) (eC 1 (some ((zB (nt (Bd x0 (0:Int)))),(hT 4 [(oC [zI z0,zI z1,zI z2,Sl.v 1 s1]),.dead,oC q1]))) (show _=some ((zB false),_) from (by rw[show (nt (Bd x0 (0:Int)))=false from h31])) (eC 2 (some ((zB (nt (Bd x1 (0:Int)))),(hT 4 [(oC [zI z0,zI z1,zI z2,Sl.v 1 s1]),.dead,oC q1]))) (show _=some ((zB false),_) from (by rw[show (nt (Bd x1 (0:Int)))=false from h32])) (eC 4 (EK tabs [[some 1],[some 1]] 2 [] [] (pu 10160) [Sl.v 1 s2,(Sl.v 1 (Sl.mk n0 0 (Aq (n0*1) (Am 0 q0))))] (hT 4 [(oC [zI z0,zI z1,zI z2,Sl.v 1 s1]),.dead,oC q1])) (EL (as:=[Sl.v 1 s2,(Sl.v 1 (Sl.mk n0 0 (Aq (n0*1) (Am 0 q0))))]) (H1:=(hT 4 [(oC [zI z0,zI z1,zI z2,Sl.v 1 s1]),.dead,oC q1])) (BS (Dm (KQ (CV (z:=1) (v:=(Sl.v 1 s2)) (H:=(hT 4 [(oC [zI z0,zI z1,zI z2,Sl.v 1 s1]),.dead,oC q1])) (by kernel_rfl) (by kernel_rfl) (by kernel_rfl)))) (BS (Dm (KQ (CV (z:=1) (v:=(Sl.v 1 (Sl.mk n0 0 (Aq (n0*1) (Am 0 q0))))) (H:=(hT 4 [(oC [zI z0,zI z1,zI z2,Sl.v 1 s1]),.dead,oC q1])) (by kernel_rfl) (by kernel_rfl) (by kernel_rfl)))) Gj)) (EI (H2:=(hT 4 [(oC [zI z0,zI z1,zI z2,Sl.v 1 s1]),.dead,oC q1])) (v:=(zB b7)) (v':=(zB b7)) [some 0] [] [] [Sl.v 1 s2,(Sl.v 1 (Sl.mk n0 0 (Aq (n0*1) (Am 0 q0))))] [] [] [some 0,none,none,none] [] [] (by kernel_rfl) BX (Eq.trans (by kernel_rfl) h33) BX BX)) (by kernel_rfl)))) (eD (some ((zB (nt b7)),(hT 4 [(oC [zI z0,zI z1,zI z2,Sl.v 1 s1]),.dead,oC q1]))) (show _=some ((zB false),_) from (by rw[show (nt b7)=false from h34])) (eC 4 (EK tabs [[some 1],[some 1]] 2 [] [] (pu 10120) [Sl.v 1 s3,sc 3 0 1 n1 c1] (hT 4 [(oC [zI z0,zI z1,zI z2,Sl.v 1 s1]),.dead,oC q1])) (EL (as:=[Sl.v 1 s3,(Sl.v 1 (Sl.mk n1 0 (Aq (n1*1) (Am 0 q1))))]) (H1:=(hT 4 [(oC [zI z0,zI z1,zI z2,Sl.v 1 s1]),.dead,.dead])) (BS (Dm (KQ (CV (z:=1) (v:=(Sl.v 1 s3)) (H:=(hT 4 [(oC [zI z0,zI z1,zI z2,Sl.v 1 s1]),.dead,oC q1])) (by kernel_rfl) (by kernel_rfl) (by kernel_rfl)))) (BS (Dm (KQ (show ER 1 (sc 3 0 1 n1 c1) (hT 4 [(oC [zI z0,zI z1,zI z2,Sl.v 1 s1]),.dead,oC q1])=some ((Sl.v 1 (Sl.mk n1 0 (Aq (n1*1) (Am 0 q1)))),(hT 4 [(oC [zI z0,zI z1,zI z2,Sl.v 1 s1]),.dead,.dead])) from KH 3 0 1 n1 c1 q1 [] (by kernel_rfl) (by kernel_rfl) h35))) Gj)) (EI (H2:=(hT 4 [(oC [zI z0,zI z1,zI z2,Sl.v 1 s1]),.dead,.dead])) (v:=(zB b8)) (v':=(zB b8)) [some 0] [] [] [Sl.v 1 s3,(Sl.v 1 (Sl.mk n1 0 (Aq (n1*1) (Am 0 q1))))] [] [] [some 0,none,none,none] [] [] (by kernel_rfl) BX (Eq.trans (by kernel_rfl) h36) BX BX)) (eD (some ((zB (nt b8)),(hT 4 [(oC [zI z0,zI z1,zI z2,Sl.v 1 s1]),.dead,.dead]))) (show _=some ((zB true),_) from (by rw[show (nt b8)=true from h37])) (eE))))) ?_
      exact⟨(s0,(Sl.mk n0 0 (Aq (n0*1) (Am 0 q0))),true,z0,z1,z2,s1),hm,(.k0 [false] [.tmp 3 false] [3,4,5,166])⟩
     ·refine .reg (eN 10 (Fr.puts (fr 244 [(3,pt 1 0),(4,Sl.v 1 s0),(5,sc 2 0 1 n0 c0),(6,sc 3 0 1 n1 c1),(16,Sl.v 1 s2),(17,zI x0),(18,Sl.v 1 s3),(19,zI x1)]) [(5,(Sl.v 1 (Sl.mk n0 0 (Aq (n0*1) (Am 0 q0))))),(138,zI x0),(139,zB false),(140,zB false),(141,zI x1),(142,zB false),(143,zB false),(144,zB false),(145,Sl.v 1 s2),(146,(Sl.v 1 (Sl.mk n0 0 (Aq (n0*1) (Am 0 q0))))),(147,zB b7)]) (hT 4 [(oC [zI z0,zI z1,zI z2,Sl.v 1 s1]),.dead,oC q1]) (eC 1 (some ((zB (nt (Bd x0 (0:Int)))),(hT 4 [(oC [zI z0,zI z1,zI z2,Sl.v 1 s1]),.dead,oC q1]))) (show _=some ((zB false),_) from (by rw[show (nt (Bd x0 (0:Int)))=false from h31])) (eC 2 (some ((zB (nt (Bd x1 (0:Int)))),(hT 4 [(oC [zI z0,zI z1,zI z2,Sl.v 1 s1]),.dead,oC q1]))) (show _=some ((zB false),_) from (by rw[show (nt (Bd x1 (0:Int)))=false from h32])) (eC 4 (EK tabs [[some 1],[some 1]] 2 [] [] (pu 10160) [Sl.v 1 s2,(Sl.v 1 (Sl.mk n0 0 (Aq (n0*1) (Am 0 q0))))] (hT 4 [(oC [zI z0,zI z1,zI z2,Sl.v 1 s1]),.dead,oC q1])) (EL (as:=[Sl.v 1 s2,(Sl.v 1 (Sl.mk n0 0 (Aq (n0*1) (Am 0 q0))))]) (H1:=(hT 4 [(oC [zI z0,zI z1,zI z2,Sl.v 1 s1]),.dead,oC q1])) (BS (Dm (KQ (CV (z:=1) (v:=(Sl.v 1 s2)) (H:=(hT 4 [(oC [zI z0,zI z1,zI z2,Sl.v 1 s1]),.dead,oC q1])) (by kernel_rfl) (by kernel_rfl) (by kernel_rfl)))) (BS (Dm (KQ (CV (z:=1) (v:=(Sl.v 1 (Sl.mk n0 0 (Aq (n0*1) (Am 0 q0))))) (H:=(hT 4 [(oC [zI z0,zI z1,zI z2,Sl.v 1 s1]),.dead,oC q1])) (by kernel_rfl) (by kernel_rfl) (by kernel_rfl)))) Gj)) (EI (H2:=(hT 4 [(oC [zI z0,zI z1,zI z2,Sl.v 1 s1]),.dead,oC q1])) (v:=(zB b7)) (v':=(zB b7)) [some 0] [] [] [Sl.v 1 s2,(Sl.v 1 (Sl.mk n0 0 (Aq (n0*1) (Am 0 q0))))] [] [] [some 0,none,none,none] [] [] (by kernel_rfl) BX (Eq.trans (by kernel_rfl) h33) BX BX)) (by kernel_rfl)))) (eD (some ((zB (nt b7)),(hT 4 [(oC [zI z0,zI z1,zI z2,Sl.v 1 s1]),.dead,oC q1]))) (show _=some ((zB false),_) from (by rw[show (nt b7)=false from h34])) (eC 4 (EK tabs [[some 1],[some 1]] 2 [] [] (pu 10120) [Sl.v 1 s3,sc 3 0 1 n1 c1] (hT 4 [(oC [zI z0,zI z1,zI z2,Sl.v 1 s1]),.dead,oC q1])) (EL (as:=[Sl.v 1 s3,(Sl.v 1 (Sl.mk n1 0 (Aq (n1*1) (Am 0 q1))))]) (H1:=(hT 4 [(oC [zI z0,zI z1,zI z2,Sl.v 1 s1]),.dead,.dead])) (BS (Dm (KQ (CV (z:=1) (v:=(Sl.v 1 s3)) (H:=(hT 4 [(oC [zI z0,zI z1,zI z2,Sl.v 1 s1]),.dead,oC q1])) (by kernel_rfl) (by kernel_rfl) (by kernel_rfl)))) (BS (Dm (KQ (show ER 1 (sc 3 0 1 n1 c1) (hT 4 [(oC [zI z0,zI z1,zI z2,Sl.v 1 s1]),.dead,oC q1])=some ((Sl.v 1 (Sl.mk n1 0 (Aq (n1*1) (Am 0 q1)))),(hT 4 [(oC [zI z0,zI z1,zI z2,Sl.v 1 s1]),.dead,.dead])) from KH 3 0 1 n1 c1 q1 [] (by kernel_rfl) (by kernel_rfl) h35))) Gj)) (EI (H2:=(hT 4 [(oC [zI z0,zI z1,zI z2,Sl.v 1 s1]),.dead,.dead])) (v:=(zB b8)) (v':=(zB b8)) [some 0] [] [] [Sl.v 1 s3,(Sl.v 1 (Sl.mk n1 0 (Aq (n1*1) (Am 0 q1))))] [] [] [some 0,none,none,none] [] [] (by kernel_rfl) BX (Eq.trans (by kernel_rfl) h36) BX BX)) (eD (some ((zB (nt b8)),(hT 4 [(oC [zI z0,zI z1,zI z2,Sl.v 1 s1]),.dead,.dead]))) (show _=some ((zB false),_) from (by rw[show (nt b8)=false from h37])) (eE))))) ?_
      exact⟨(s0,(Sl.mk n0 0 (Aq (n0*1) (Am 0 q0))),(nt (Bd (Aj .i64 (Int.mul (Int.ofNat (Sl.n s2)) (Int.ofNat (Sl.n s3)))) (Int.ofNat (Sl.n s1)))),z0,z1,z2,s1),hm,(.k0 [false] [.tmp 3 false] [3,4,5,166])⟩
theorem AhF (pu:Af) (n:Nat) (s0:Sl) (n0 c0 n1 c1:Nat) (z0 z1 z2:Int) (s1:Sl) (q0:LV) (q1:LV) {v:Value} (hm:XQ pu n s0 n0 c0 n1 c1 z0 z1 z2 s1 q0 q1=some v):BN tt (Bb tabs isP pu (inl pu)) 1 Yq (fr 244 [(3,pt 1 0),(4,Sl.v 1 s0),(5,sc 2 0 1 n0 c0),(6,sc 3 0 1 n1 c1)]) (hT 4 [(oC [zI z0,zI z1,zI z2,Sl.v 1 s1]),oC q0,oC q1]) (Fin tt 1 [.tmp 2] v):=by
 unfold XQ at hm
 refine .join (v:=v) (fun y:Sl×Nat×Nat×Nat×Nat×Int×Int×Int×Sl×LV×LV=>((fr 244 [(3,pt 1 0),(4,(Sl.v 1 y.1)),(5,(sc 2 0 1 y.2.1 y.2.2.1)),(6,(sc 3 0 1 y.2.2.2.1 y.2.2.2.2.1))]),(hT 4 [(oC [(zI y.2.2.2.2.2.1),(zI y.2.2.2.2.2.2.1),(zI y.2.2.2.2.2.2.2.1),(Sl.v 1 y.2.2.2.2.2.2.2.2.1)]),(oC y.2.2.2.2.2.2.2.2.2.1),(oC y.2.2.2.2.2.2.2.2.2.2)]))) (fun y=>V5 pu n y.1 y.2.1 y.2.2.1 y.2.2.2.1 y.2.2.2.2.1 y.2.2.2.2.2.1 y.2.2.2.2.2.2.1 y.2.2.2.2.2.2.2.1 y.2.2.2.2.2.2.2.2.1 y.2.2.2.2.2.2.2.2.2.1 y.2.2.2.2.2.2.2.2.2.2) ?_ ?_
 ·rintro⟨s2,n2,c2,n3,c4,z3,z4,z5,s3,q2,q3⟩ hm
  exact AhE pu n s2 n2 c2 n3 c4 z3 z4 z5 s3 q2 q3 hm
 ·refine .then (.rK ?_)
  replace hm:=Ae hm;obtain⟨h0,hm⟩:=hm
  replace hm:=Ae hm;obtain⟨h1,hm⟩:=hm
  refine .ghs (fr 244 [(3,pt 1 0),(4,Sl.v 1 s0),(5,sc 2 0 1 n0 c0),(6,sc 3 0 1 n1 c1),(90,(zI (Int.ofNat n0))),(91,(zI (0:Int)))]) (hT 4 [(oC [zI z0,zI z1,zI z2,Sl.v 1 s1]),oC q0,oC q1]) (.k [2,3] [false] [.tmp 3 false,.tmp 5 false,.tmp 6 false] [3,4,5,6,90,91] ⟨A7 h0,A7 h1,trivial⟩) ?_
  refine .block (.loopM (v:=v) (fun y:Sl×Nat×Nat×Nat×Nat×Int×Int×Int×Int×Int×Sl×LV×LV=>((fr 244 [(3,pt 1 0),(4,(Sl.v 1 y.1)),(5,(sc 2 0 1 y.2.1 y.2.2.1)),(6,(sc 3 0 1 y.2.2.2.1 y.2.2.2.2.1)),(90,(zI y.2.2.2.2.2.1)),(91,(zI y.2.2.2.2.2.2.1))]),(hT 4 [(oC [(zI y.2.2.2.2.2.2.2.1),(zI y.2.2.2.2.2.2.2.2.1),(zI y.2.2.2.2.2.2.2.2.2.1),(Sl.v 1 y.2.2.2.2.2.2.2.2.2.2.1)]),(oC y.2.2.2.2.2.2.2.2.2.2.2.1),(oC y.2.2.2.2.2.2.2.2.2.2.2.2)]))) (fun w y=>KY pu n w y.1 y.2.1 y.2.2.1 y.2.2.2.1 y.2.2.2.2.1 y.2.2.2.2.2.1 y.2.2.2.2.2.2.1 y.2.2.2.2.2.2.2.1 y.2.2.2.2.2.2.2.2.1 y.2.2.2.2.2.2.2.2.2.1 y.2.2.2.2.2.2.2.2.2.2.1 y.2.2.2.2.2.2.2.2.2.2.2.1 y.2.2.2.2.2.2.2.2.2.2.2.2) n ⟨(s0,n0,c0,n1,c1,(Int.ofNat n0),(0:Int),z0,z1,z2,s1,q0,q1),hm,(.k [2,3] [false] [.tmp 3 false,.tmp 5 false,.tmp 6 false] [3,4,5,6,90,91] ⟨A7 h0,A7 h1,trivial⟩)⟩ (fun _=>rfl) ?_)
  rintro w0 ⟨s4,n4,c5,n5,c6,z6,z7,z8,z9,z10,s5,q4,q5⟩ hm
  replace hm:V6 pu n (KY pu n w0) s4 n4 c5 n5 c6 z6 z7 z8 z9 z10 s5 q4 q5=some v:=hm
  unfold V6 at hm
  refine .then (.rK ?_)
  replace hm:=Ae hm;obtain⟨h2,hm⟩:=hm
  replace hm:=Ae hm;obtain⟨h3,hm⟩:=hm
  refine .ghs (fr 244 [(3,pt 1 0),(4,Sl.v 1 s4),(5,sc 2 0 1 n4 c5),(6,sc 3 0 1 n5 c6),(90,zI z6),(91,zI z7),(92,(zB (AY z7 z6)))]) (hT 4 [(oC [zI z8,zI z9,zI z10,Sl.v 1 s5]),oC q4,oC q5]) (.k [2,3] [false] [.tmp 3 false,.tmp 5 false,.tmp 6 false] [3,4,5,6,90,91,92] ⟨A7 h2,A7 h3,trivial⟩) ?_
  refine .then ?_
  replace hm:=Ag hm;rcases hm with⟨h4,hm⟩ | ⟨h4,hm⟩
  ·refine BI (AY z7 z6) h4 ?_
   refine .skip (.ghs (fr 244 [(3,pt 1 0),(4,Sl.v 1 s4),(5,sc 2 0 1 n4 c5),(6,sc 3 0 1 n5 c6),(90,zI z6),(91,zI z7)]) (hT 4 [(oC [zI z8,zI z9,zI z10,Sl.v 1 s5]),oC q4,oC q5]) (.k [2,3] [false] [.tmp 3 false,.tmp 5 false,.tmp 6 false] [3,4,5,6,90,91] ⟨A7 h2,A7 h3,trivial⟩) ?_)
   refine .join (v:=v) (fun y:Sl×Nat×Nat×Nat×Nat×Int×Int×Int×Int×Int×Sl×LV×LV=>((fr 244 [(3,pt 1 0),(4,(Sl.v 1 y.1)),(5,(sc 2 0 1 y.2.1 y.2.2.1)),(6,(sc 3 0 1 y.2.2.2.1 y.2.2.2.2.1)),(90,(zI y.2.2.2.2.2.1)),(91,(zI y.2.2.2.2.2.2.1))]),(hT 4 [(oC [(zI y.2.2.2.2.2.2.2.1),(zI y.2.2.2.2.2.2.2.2.1),(zI y.2.2.2.2.2.2.2.2.2.1),(Sl.v 1 y.2.2.2.2.2.2.2.2.2.2.1)]),(oC y.2.2.2.2.2.2.2.2.2.2.2.1),(oC y.2.2.2.2.2.2.2.2.2.2.2.2)]))) (fun y=>QD pu n (KY pu n w0) y.1 y.2.1 y.2.2.1 y.2.2.2.1 y.2.2.2.2.1 y.2.2.2.2.2.1 y.2.2.2.2.2.2.1 y.2.2.2.2.2.2.2.1 y.2.2.2.2.2.2.2.2.1 y.2.2.2.2.2.2.2.2.2.1 y.2.2.2.2.2.2.2.2.2.2.1 y.2.2.2.2.2.2.2.2.2.2.2.1 y.2.2.2.2.2.2.2.2.2.2.2.2) ?_ ?_
   ·rintro⟨s6,n6,c7,n7,c8,z11,z12,z13,z14,z15,s7,q6,q7⟩ hm
    unfold QD at hm
    refine .rK ?_
    replace hm:=Ae hm;obtain⟨h5,hm⟩:=hm
    replace hm:=Ae hm;obtain⟨h6,hm⟩:=hm
    exact⟨(s6,n6,c7,n7,c8,z11,(Aj .i64 (Int.add z12 (1:Int))),z13,z14,z15,s7,q6,q7),hm,(.k [2,3] [false] [.tmp 3 false,.tmp 5 false,.tmp 6 false] [3,4,5,6,90,91] ⟨A7 h5,A7 h6,trivial⟩)⟩
   ·refine .block (.then (.rK (.ghs (fr 244 [(3,pt 1 0),(4,Sl.v 1 s4),(5,sc 2 0 1 n4 c5),(6,sc 3 0 1 n5 c6),(15,(zI (1:Int))),(90,zI z6),(91,zI z7)]) (hT 4 [(oC [zI z8,zI z9,zI z10,Sl.v 1 s5]),oC q4,oC q5]) (.k [2,3] [false] [.tmp 3 false,.tmp 5 false,.tmp 6 false] [3,4,5,6,15,90,91] ⟨A7 h2,A7 h3,trivial⟩) ?_)))
    refine .block (.loopM (v:=v) (fun y:Sl×Nat×Nat×Nat×Nat×Int×Int×Int×Int×Int×Int×Sl×LV×LV=>((fr 244 [(3,pt 1 0),(4,(Sl.v 1 y.1)),(5,(sc 2 0 1 y.2.1 y.2.2.1)),(6,(sc 3 0 1 y.2.2.2.1 y.2.2.2.2.1)),(15,(zI y.2.2.2.2.2.1)),(90,(zI y.2.2.2.2.2.2.1)),(91,(zI y.2.2.2.2.2.2.2.1))]),(hT 4 [(oC [(zI y.2.2.2.2.2.2.2.2.1),(zI y.2.2.2.2.2.2.2.2.2.1),(zI y.2.2.2.2.2.2.2.2.2.2.1),(Sl.v 1 y.2.2.2.2.2.2.2.2.2.2.2.1)]),(oC y.2.2.2.2.2.2.2.2.2.2.2.2.1),(oC y.2.2.2.2.2.2.2.2.2.2.2.2.2)]))) (fun w y=>Nh pu n (KY pu n w0) w y.1 y.2.1 y.2.2.1 y.2.2.2.1 y.2.2.2.2.1 y.2.2.2.2.2.1 y.2.2.2.2.2.2.1 y.2.2.2.2.2.2.2.1 y.2.2.2.2.2.2.2.2.1 y.2.2.2.2.2.2.2.2.2.1 y.2.2.2.2.2.2.2.2.2.2.1 y.2.2.2.2.2.2.2.2.2.2.2.1 y.2.2.2.2.2.2.2.2.2.2.2.2.1 y.2.2.2.2.2.2.2.2.2.2.2.2.2) n ⟨(s4,n4,c5,n5,c6,(1:Int),z6,z7,z8,z9,z10,s5,q4,q5),hm,(.k [2,3] [false] [.tmp 3 false,.tmp 5 false,.tmp 6 false] [3,4,5,6,15,90,91] ⟨A7 h2,A7 h3,trivial⟩)⟩ (fun _=>rfl) ?_)
    rintro w1 ⟨s8,n8,c25,n9,c26,z16,z17,z18,z19,z20,z21,s9,q8,q9⟩ hm
    replace hm:OX pu n (KY pu n w0) (Nh pu n (KY pu n w0) w1) s8 n8 c25 n9 c26 z16 z17 z18 z19 z20 z21 s9 q8 q9=some v:=hm
    unfold OX at hm
    refine .then (.then (.rK ?_))
    replace hm:=Ae hm;obtain⟨h7,hm⟩:=hm
    replace hm:=Ae hm;obtain⟨h8,hm⟩:=hm
    refine .ghs (fr 244 [(3,pt 1 0),(4,Sl.v 1 s8),(5,sc 2 0 1 n8 c25),(6,sc 3 0 1 n9 c26),(15,zI z16),(90,zI z17),(91,zI z18),(96,(zB (AY z16 (Int.ofNat n8))))]) (hT 4 [(oC [zI z19,zI z20,zI z21,Sl.v 1 s9]),oC q8,oC q9]) (.k [2,3] [false] [.tmp 3 false,.tmp 5 false,.tmp 6 false] [3,4,5,6,15,90,91,96] ⟨A7 h7,A7 h8,trivial⟩) ?_
    replace hm:=Ag hm;rcases hm with⟨h9,hm⟩ | ⟨h9,hm⟩
    ·refine BI (AY z16 (Int.ofNat n8)) h9 ?_
     refine .skip (.ghs (fr 244 [(3,pt 1 0),(4,Sl.v 1 s8),(5,sc 2 0 1 n8 c25),(6,sc 3 0 1 n9 c26),(15,zI z16),(90,zI z17),(91,zI z18)]) (hT 4 [(oC [zI z19,zI z20,zI z21,Sl.v 1 s9]),oC q8,oC q9]) (.k [2,3] [false] [.tmp 3 false,.tmp 5 false,.tmp 6 false] [3,4,5,6,15,90,91] ⟨A7 h7,A7 h8,trivial⟩) ?_)
     refine .join (v:=v) (fun y:Sl×Nat×Nat×Nat×Nat×Int×Int×Int×Int×Int×Int×Sl×LV×LV=>((fr 244 [(3,pt 1 0),(4,(Sl.v 1 y.1)),(5,(sc 2 0 1 y.2.1 y.2.2.1)),(6,(sc 3 0 1 y.2.2.2.1 y.2.2.2.2.1)),(15,(zI y.2.2.2.2.2.1)),(90,(zI y.2.2.2.2.2.2.1)),(91,(zI y.2.2.2.2.2.2.2.1))]),(hT 4 [(oC [(zI y.2.2.2.2.2.2.2.2.1),(zI y.2.2.2.2.2.2.2.2.2.1),(zI y.2.2.2.2.2.2.2.2.2.2.1),(Sl.v 1 y.2.2.2.2.2.2.2.2.2.2.2.1)]),(oC y.2.2.2.2.2.2.2.2.2.2.2.2.1),(oC y.2.2.2.2.2.2.2.2.2.2.2.2.2)]))) (fun y=>Uh pu n (KY pu n w0) (Nh pu n (KY pu n w0) w1) y.1 y.2.1 y.2.2.1 y.2.2.2.1 y.2.2.2.2.1 y.2.2.2.2.2.1 y.2.2.2.2.2.2.1 y.2.2.2.2.2.2.2.1 y.2.2.2.2.2.2.2.2.1 y.2.2.2.2.2.2.2.2.2.1 y.2.2.2.2.2.2.2.2.2.2.1 y.2.2.2.2.2.2.2.2.2.2.2.1 y.2.2.2.2.2.2.2.2.2.2.2.2.1 y.2.2.2.2.2.2.2.2.2.2.2.2.2) ?_ ?_
     ·rintro⟨s10,n10,c27,n11,c28,z22,z23,z24,z25,z26,z27,s11,q10,q11⟩ hm
      unfold Uh at hm
      refine .rK ?_
      replace hm:=Ae hm;obtain⟨h10,hm⟩:=hm
      replace hm:=Ae hm;obtain⟨h11,hm⟩:=hm
      exact⟨(s10,n10,c27,n11,c28,(Aj .i64 (Int.add z22 (1:Int))),z23,z24,z25,z26,z27,s11,q10,q11),hm,(.k [2,3] [false] [.tmp 3 false,.tmp 5 false,.tmp 6 false] [3,4,5,6,15,90,91] ⟨A7 h10,A7 h11,trivial⟩)⟩
     ·refine .block (.then ?_)
      replace hm:=Ab hm;obtain⟨k1,h12,hm⟩:=hm
      obtain rfl:=AR h12
      replace hm:=Ae hm;obtain⟨h13,hm⟩:=hm
      replace hm:=oS hm;obtain⟨s12,h14,hm⟩:=hm
      replace hm:=Ab hm;obtain⟨k2,h15,hm⟩:=hm
      replace hm:=Ae hm;obtain⟨h16,hm⟩:=hm
      replace hm:=oS hm;obtain⟨s13,h17,hm⟩:=hm
      replace hm:=oB hm;obtain⟨b0,h18,hm⟩:=hm
      refine .reg (eN 7 (Fr.puts (fr 244 [(3,pt 1 0),(4,Sl.v 1 s8),(5,sc 2 0 1 n8 c25),(6,sc 3 0 1 n9 c26),(15,(zI (Int.ofNat k1))),(90,zI z17),(91,zI z18)]) [(99,sc 2 0 1 n8 c25),(100,(zI (Int.ofNat k1))),(101,(.pointer (some ⟨2,(0+k1*1),none⟩))),(102,Sl.v 1 s12),(103,sc 2 0 1 n8 c25),(104,(zI (Int.ofNat k1))),(105,(zI (Int.ofNat k2)))]) (hT 4 [(oC [zI z19,zI z20,zI z21,Sl.v 1 s9]),oC q8,oC q9]) (eC 2 (keep (hT 4 [(oC [zI z19,zI z20,zI z21,Sl.v 1 s9]),oC q8,oC q9]) (bb (an (Nat.blt k1 n8) true) (some (.pointer (some ⟨2,(0+k1*1),none⟩))) none)) (AX h13) (eD (keep (hT 4 [(oC [zI z19,zI z20,zI z21,Sl.v 1 s9]),oC q8,oC q9]) (AL q8 (0+k1*1))) (AZ h14) (eC 2 (some ((zI (Aj .i64 (Int.sub (Int.ofNat k1) (1:Int)))),(hT 4 [(oC [zI z19,zI z20,zI z21,Sl.v 1 s9]),oC q8,oC q9]))) (show _=some ((zI (Int.ofNat k2)),_) from (by rw[AR h15])) (by kernel_rfl)))) (eD (keep (hT 4 [(oC [zI z19,zI z20,zI z21,Sl.v 1 s9]),oC q8,oC q9]) (bb (an (Nat.blt k2 n8) true) (some (.pointer (some ⟨2,(0+k2*1),none⟩))) none)) (AX h16) (eD (keep (hT 4 [(oC [zI z19,zI z20,zI z21,Sl.v 1 s9]),oC q8,oC q9]) (AL q8 (0+k2*1))) (AZ h17) (eD ((oo (pu 13 [Sl.v 1 s12,Sl.v 1 s13]) none fun v=>some (v,(hT 4 [(oC [zI z19,zI z20,zI z21,Sl.v 1 s9]),oC q8,oC q9])))) (AB h18) (eE))))) ?_
      refine .ghs (fr 244 [(3,pt 1 0),(4,Sl.v 1 s8),(5,sc 2 0 1 n8 c25),(6,sc 3 0 1 n9 c26),(15,(zI (Int.ofNat k1))),(90,zI z17),(91,zI z18),(108,zB b0)]) (hT 4 [(oC [zI z19,zI z20,zI z21,Sl.v 1 s9]),oC q8,oC q9]) (.k [2,3] [false] [.tmp 3 false,.tmp 5 false,.tmp 6 false] [3,4,5,6,15,90,91,108] ⟨A7 h7,A7 h8,trivial⟩) ?_
      replace hm:=Ag hm;rcases hm with⟨h19,hm⟩ | ⟨h19,hm⟩
      ·refine .ifT b0 (by kernel_rfl) h19 ?_
       replace hm:=Ab hm;obtain⟨k3,h20,hm⟩:=hm
       replace hm:=Ab hm;obtain⟨k4,h21,hm⟩:=hm
       replace hm:=Ae hm;obtain⟨h22,hm⟩:=hm
       replace hm:=oS hm;obtain⟨s14,h23,hm⟩:=hm
       replace hm:=Ae hm;obtain⟨h24,hm⟩:=hm
       replace hm:=oS hm;obtain⟨s15,h25,hm⟩:=hm
       replace hm:=Ae hm;obtain⟨h26,hm⟩:=hm
       replace hm:=Ae hm;obtain⟨h27,hm⟩:=hm
       replace hm:=Ae hm;obtain⟨h28,hm⟩:=hm
       replace hm:=Ae hm;obtain⟨h29,hm⟩:=hm
       refine .reg (eN 9 (Fr.puts (fr 244 [(3,pt 1 0),(4,Sl.v 1 s8),(5,sc 2 0 1 n8 c25),(6,sc 3 0 1 n9 c26),(15,(zI (Int.ofNat k1))),(90,zI z17),(91,zI z18),(108,zB b0)]) [(109,sc 2 0 1 n8 c25),(110,(zI (Int.ofNat k1))),(111,sc 2 0 1 n8 c25),(112,(zI (Int.ofNat k1))),(113,(zI (Int.ofNat k3))),(114,sc 2 0 1 n8 c25),(115,(zI (Int.ofNat k1))),(116,(zI (Int.ofNat k4))),(117,(.pointer (some ⟨2,(0+k4*1),none⟩)))]) (hT 4 [(oC [zI z19,zI z20,zI z21,Sl.v 1 s9]),oC q8,oC q9]) (eC 4 (some ((zI (Aj .i64 (Int.sub (Int.ofNat k1) (1:Int)))),(hT 4 [(oC [zI z19,zI z20,zI z21,Sl.v 1 s9]),oC q8,oC q9]))) (show _=some ((zI (Int.ofNat k3)),_) from (by rw[AR h20])) (eC 2 (some ((zI (Aj .i64 (Int.sub (Int.ofNat k1) (1:Int)))),(hT 4 [(oC [zI z19,zI z20,zI z21,Sl.v 1 s9]),oC q8,oC q9]))) (show _=some ((zI (Int.ofNat k4)),_) from (by rw[AR h21])) (eD (keep (hT 4 [(oC [zI z19,zI z20,zI z21,Sl.v 1 s9]),oC q8,oC q9]) (bb (an (Nat.blt k4 n8) true) (some (.pointer (some ⟨2,(0+k4*1),none⟩))) none)) (AX h22) (by kernel_rfl)))) (eN 5 (Fr.puts (fr 244 [(3,pt 1 0),(4,Sl.v 1 s8),(5,sc 2 0 1 n8 c25),(6,sc 3 0 1 n9 c26),(15,(zI (Int.ofNat k1))),(90,zI z17),(91,zI z18),(108,zB b0)]) [(109,sc 2 0 1 n8 c25),(110,(zI (Int.ofNat k1))),(111,sc 2 0 1 n8 c25),(112,(zI (Int.ofNat k1))),(113,(zI (Int.ofNat k3))),(114,sc 2 0 1 n8 c25),(115,(zI (Int.ofNat k1))),(116,(zI (Int.ofNat k4))),(117,(.pointer (some ⟨2,(0+k4*1),none⟩))),(118,Sl.v 1 s14),(119,sc 2 0 1 n8 c25),(120,(zI (Int.ofNat k1))),(121,(.pointer (some ⟨2,(0+k1*1),none⟩))),(122,Sl.v 1 s15)]) (hT 4 [(oC [zI z19,zI z20,zI z21,Sl.v 1 s9]),oC q8,oC q9]) (eD (keep (hT 4 [(oC [zI z19,zI z20,zI z21,Sl.v 1 s9]),oC q8,oC q9]) (AL q8 (0+k4*1))) (AZ h23) (eC 2 (keep (hT 4 [(oC [zI z19,zI z20,zI z21,Sl.v 1 s9]),oC q8,oC q9]) (bb (an (Nat.blt k1 n8) true) (some (.pointer (some ⟨2,(0+k1*1),none⟩))) none)) (AX h24) (eD (keep (hT 4 [(oC [zI z19,zI z20,zI z21,Sl.v 1 s9]),oC q8,oC q9]) (AL q8 (0+k1*1))) (AZ h25) (by kernel_rfl)))) (eD (keep (hT 4 [(oC [zI z19,zI z20,zI z21,Sl.v 1 s9]),oC q8,oC q9]) (bb (an (Nat.blt k1 n8) true) (some (.pointer (some ⟨2,(0+k1*1),none⟩))) none)) (AX h26) (eD (done (bb (an (Nat.ble ((0+k1*1)+1) (len q8)) true) (some (hT 4 [(oC [zI z19,zI z20,zI z21,Sl.v 1 s9]),(oC (BM ([Sl.v 1 s14]:LV) (0+k1*1) q8)),oC q9])) none) undef) (Js h27) (eD (keep (hT 4 [(oC [zI z19,zI z20,zI z21,Sl.v 1 s9]),(oC (BM ([Sl.v 1 s14]:LV) (0+k1*1) q8)),oC q9]) (bb (an (Nat.blt k3 n8) true) (some (.pointer (some ⟨2,(0+k3*1),none⟩))) none)) (AX h28) (eD (done (bb (an (Nat.ble ((0+k3*1)+1) (len (BM ([Sl.v 1 s14]:LV) (0+k1*1) q8))) true) (some (hT 4 [(oC [zI z19,zI z20,zI z21,Sl.v 1 s9]),(oC (BM ([Sl.v 1 s15]:LV) (0+k3*1) (BM ([Sl.v 1 s14]:LV) (0+k1*1) q8))),oC q9])) none) undef) (Js h29) (eE))))))) ?_
       replace hm:=Ae hm;obtain⟨h30,hm⟩:=hm
       exact⟨(s8,n8,c25,n9,c26,(Int.ofNat k1),z17,z18,z19,z20,z21,s9,(BM ([Sl.v 1 s15]:LV) (0+k3*1) (BM ([Sl.v 1 s14]:LV) (0+k1*1) q8)),q9),hm,(.k [2,3] [false] [.tmp 3 false,.tmp 5 false,.tmp 6 false] [3,4,5,6,15,90,91] ⟨A7 h30,A7 h8,trivial⟩)⟩
      ·refine .ifF b0 (by kernel_rfl) h19 ?_
       refine .skip ?_
       exact⟨(s8,n8,c25,n9,c26,(Int.ofNat k1),z17,z18,z19,z20,z21,s9,q8,q9),hm,(.k [2,3] [false] [.tmp 3 false,.tmp 5 false,.tmp 6 false] [3,4,5,6,15,90,91] ⟨A7 h7,A7 h8,trivial⟩)⟩
    ·refine BO (AY z16 (Int.ofNat n8)) h9 ?_
     refine .exit ?_
     exact⟨(s8,n8,c25,n9,c26,z17,z18,z19,z20,z21,s9,q8,q9),hm,(.k [2,3] [false] [.tmp 3 false,.tmp 5 false,.tmp 6 false] [3,4,5,6,90,91] ⟨A7 h7,A7 h8,trivial⟩)⟩
  ·refine BO (AY z7 z6) h4 ?_
   refine .exit ?_
   exact⟨(s4,n4,c5,n5,c6,z8,z9,z10,s5,q4,q5),hm,(.k [2,3] [false] [.tmp 3 false,.tmp 5 false,.tmp 6 false] [3,4,5,6] ⟨A7 h2,A7 h3,trivial⟩)⟩
theorem r3 {call:A8} (pu:Af) (n:Nat) (hcall:call=Bb tabs isP pu (inl pu)) {args:LV} {v:Value} (hm:m3 pu n args=some v) (_:∀ x∈args,closed2 x=true):args.length≤244∧BN tt call 1 RV (Fr.made 244 args) (Ao tabs) (Fin tt 1 [.tmp 2] v):=by
 subst hcall
 unfold m3 at hm
 replace hm:=Ad hm;obtain⟨a0,args_0,rfl,hm⟩:=hm
 replace hm:=AC hm;obtain⟨rfl,hm⟩:=hm
 replace hm:=BG hm;obtain⟨q1,rfl,hm⟩:=hm
 replace hm:=Ae hm;obtain⟨h3,hm⟩:=hm
 unfold m3_ at hm
 refine⟨by simp,?_⟩
 refine .same (F':=(fr 244 [(0,(.agg ⟨q1⟩))])) (H':=Ay) (by kernel_rfl) (by kernel_rfl) ?_
 refine .then (.rK ?_)
 replace hm:=Ae hm;obtain⟨h4,hm⟩:=hm
 refine .ghs (fr 244 [(1,pt 1 0)]) (hT 2 [oC q1]) (.k [1] [false] [.tmp 1 false] [1] ⟨A7 h4,trivial⟩) ?_
 refine .then ?_
 replace hm:=Ae hm;obtain⟨h29,hm⟩:=hm
 replace hm:=Ab hm;obtain⟨v30,h31,hm⟩:=hm
 replace hm:=Ch hm;obtain⟨l32,rfl,hm⟩:=hm
 replace hm:=Ad hm;obtain⟨v34,l32_0,rfl,hm⟩:=hm
 replace hm:=Ad hm;obtain⟨v35,K9,rfl,hm⟩:=hm
 replace hm:=AC hm;obtain⟨rfl,hm⟩:=hm
 replace hm:=BG hm;obtain⟨l36,rfl,hm⟩:=hm
 replace hm:=Ad hm;obtain⟨v38,l36_0,rfl,hm⟩:=hm
 replace hm:=Ad hm;obtain⟨v39,Gy,rfl,hm⟩:=hm
 replace hm:=Ad hm;obtain⟨v40,l36_2,rfl,hm⟩:=hm
 replace hm:=Ad hm;obtain⟨v41,l36_3,rfl,hm⟩:=hm
 replace hm:=AC hm;obtain⟨rfl,hm⟩:=hm
 replace hm:=Ai hm;obtain⟨x42,rfl,hm⟩:=hm
 replace hm:=Ai hm;obtain⟨x44,rfl,hm⟩:=hm
 replace hm:=Ai hm;obtain⟨x46,rfl,hm⟩:=hm
 replace hm:=Al hm;obtain⟨s48,rfl,hm⟩:=hm
 replace hm:=Al hm;obtain⟨s50,rfl,hm⟩:=hm
 replace hm:=Ae hm;obtain⟨h52,hm⟩:=hm
 refine .reg (eD (keep (hT 2 [oC q1]) (bb (Nat.ble (0+20) (len q1)) (some (.agg ⟨(Aq 20 (Am 0 q1))⟩)) none)) (AX h29) (eD (bb (Au closed2 [(.agg ⟨(Aq 20 (Am 0 q1))⟩),(zI (4:Int)),(zI (4:Int))]) (oo (pu 9 [(.agg ⟨(Aq 20 (Am 0 q1))⟩),(zI (4:Int)),(zI (4:Int))]) none fun v=>some (v,(hT 2 [oC q1]))) (oo (CG (RG (hT 2 [oC q1])) [(.agg ⟨(Aq 20 (Am 0 q1))⟩),(zI (4:Int)),(zI (4:Int))]) none fun l1=>oo (pu 9 l1) none fun v=>bb (RH v) (some (v,(hT 2 [oC q1]))) none)) (SL h52 h31) (eE))) ?_
 refine .ghs (fr 244 [(3,pt 1 0),(4,Sl.v 1 s50)]) (hT 2 [(oC [zI x42,zI x44,zI x46,Sl.v 1 s48])]) (.k0 [false] [.tmp 3 false] [3,4]) ?_
 refine .then (.rK (.ghs (fr 244 [(3,pt 1 0),(4,Sl.v 1 s50),(5,(.slice none 0 0))]) (hT 2 [(oC [zI x42,zI x44,zI x46,Sl.v 1 s48])]) (.k0 [false] [.tmp 3 false] [3,4,5]) ?_))
 refine .then (.rK (.ghs (fr 244 [(3,pt 1 0),(4,Sl.v 1 s50),(5,(.slice none 0 0)),(6,(.slice none 0 0))]) (hT 2 [(oC [zI x42,zI x44,zI x46,Sl.v 1 s48])]) (.k0 [false] [.tmp 3 false] [3,4,5,6]) ?_))
 refine .join (v:=v) (fun y:Sl×Nat×Nat×Nat×Nat×Int×Int×Int×Sl×LV×LV=>((fr 244 [(3,pt 1 0),(4,(Sl.v 1 y.1)),(5,(sc 2 0 1 y.2.1 y.2.2.1)),(6,(sc 3 0 1 y.2.2.2.1 y.2.2.2.2.1))]),(hT 4 [(oC [(zI y.2.2.2.2.2.1),(zI y.2.2.2.2.2.2.1),(zI y.2.2.2.2.2.2.2.1),(Sl.v 1 y.2.2.2.2.2.2.2.2.1)]),(oC y.2.2.2.2.2.2.2.2.2.1),(oC y.2.2.2.2.2.2.2.2.2.2)]))) (fun y=>XQ pu n y.1 y.2.1 y.2.2.1 y.2.2.2.1 y.2.2.2.2.1 y.2.2.2.2.2.1 y.2.2.2.2.2.2.1 y.2.2.2.2.2.2.2.1 y.2.2.2.2.2.2.2.2.1 y.2.2.2.2.2.2.2.2.2.1 y.2.2.2.2.2.2.2.2.2.2) ?_ ?_
 ·rintro⟨s0,n0,c0,n1,c1,z0,z1,z2,s1,q0,q2⟩ hm
  exact AhF pu n s0 n0 c0 n1 c1 z0 z1 z2 s1 q0 q2 hm
 ·refine .then (.rK (.ghs (fr 244 [(3,pt 1 0),(4,Sl.v 1 s50),(5,(.slice none 0 0)),(6,(.slice none 0 0)),(34,Sl.v 1 s48),(35,(zI (Int.ofNat (Sl.n s48)))),(36,(zI (0:Int)))]) (hT 2 [(oC [zI x42,zI x44,zI x46,Sl.v 1 s48])]) (.k0 [false] [.tmp 3 false] [3,4,5,6,34,35,36]) ?_))
  refine .block (.loopM (v:=v) (fun y:Sl×Nat×Nat×Nat×Nat×Sl×Int×Int×Int×Int×Int×Sl×LV×LV=>((fr 244 [(3,pt 1 0),(4,(Sl.v 1 y.1)),(5,(sc 2 0 1 y.2.1 y.2.2.1)),(6,(sc 3 0 1 y.2.2.2.1 y.2.2.2.2.1)),(34,(Sl.v 1 y.2.2.2.2.2.1)),(35,(zI y.2.2.2.2.2.2.1)),(36,(zI y.2.2.2.2.2.2.2.1))]),(hT 4 [(oC [(zI y.2.2.2.2.2.2.2.2.1),(zI y.2.2.2.2.2.2.2.2.2.1),(zI y.2.2.2.2.2.2.2.2.2.2.1),(Sl.v 1 y.2.2.2.2.2.2.2.2.2.2.2.1)]),(oC y.2.2.2.2.2.2.2.2.2.2.2.2.1),(oC y.2.2.2.2.2.2.2.2.2.2.2.2.2)]))) (fun w y=>Gl pu n w y.1 y.2.1 y.2.2.1 y.2.2.2.1 y.2.2.2.2.1 y.2.2.2.2.2.1 y.2.2.2.2.2.2.1 y.2.2.2.2.2.2.2.1 y.2.2.2.2.2.2.2.2.1 y.2.2.2.2.2.2.2.2.2.1 y.2.2.2.2.2.2.2.2.2.2.1 y.2.2.2.2.2.2.2.2.2.2.2.1 y.2.2.2.2.2.2.2.2.2.2.2.2.1 y.2.2.2.2.2.2.2.2.2.2.2.2.2) n ⟨(s50,0,0,0,0,s48,(Int.ofNat (Sl.n s48)),(0:Int),x42,x44,x46,s48,([]:LV),([]:LV)),hm,(.thaw 5 1 (by kernel_rfl) (.thaw 6 1 (by kernel_rfl) (.k0 [false] [.tmp 3 false,.tmp 5 false,.tmp 6 false] [3,4,5,6,34,35,36])))⟩ (fun _=>rfl) ?_)
  rintro w0 ⟨s2,n2,c2,n3,c4,s3,z3,z4,z5,z6,z7,s4,q3,q4⟩ hm
  replace hm:O0 pu n (Gl pu n w0) s2 n2 c2 n3 c4 s3 z3 z4 z5 z6 z7 s4 q3 q4=some v:=hm
  unfold O0 at hm
  refine .then (.rK ?_)
  replace hm:=Ae hm;obtain⟨h0,hm⟩:=hm
  replace hm:=Ae hm;obtain⟨h1,hm⟩:=hm
  refine .ghs (fr 244 [(3,pt 1 0),(4,Sl.v 1 s2),(5,sc 2 0 1 n2 c2),(6,sc 3 0 1 n3 c4),(34,Sl.v 1 s3),(35,zI z3),(36,zI z4),(37,(zB (AY z4 z3)))]) (hT 4 [(oC [zI z5,zI z6,zI z7,Sl.v 1 s4]),oC q3,oC q4]) (.k [2,3] [false] [.tmp 3 false,.tmp 5 false,.tmp 6 false] [3,4,5,6,34,35,36,37] ⟨A7 h0,A7 h1,trivial⟩) ?_
  refine .then ?_
  replace hm:=Ag hm;rcases hm with⟨h2,hm⟩ | ⟨h2,hm⟩
  ·refine BI (AY z4 z3) h2 ?_
   refine .skip (.ghs (fr 244 [(3,pt 1 0),(4,Sl.v 1 s2),(5,sc 2 0 1 n2 c2),(6,sc 3 0 1 n3 c4),(34,Sl.v 1 s3),(35,zI z3),(36,zI z4)]) (hT 4 [(oC [zI z5,zI z6,zI z7,Sl.v 1 s4]),oC q3,oC q4]) (.k [2,3] [false] [.tmp 3 false,.tmp 5 false,.tmp 6 false] [3,4,5,6,34,35,36] ⟨A7 h0,A7 h1,trivial⟩) ?_)
   refine .join (v:=v) (fun y:Sl×Nat×Nat×Nat×Nat×Sl×Int×Int×Int×Int×Int×Sl×LV×LV=>((fr 244 [(3,pt 1 0),(4,(Sl.v 1 y.1)),(5,(sc 2 0 1 y.2.1 y.2.2.1)),(6,(sc 3 0 1 y.2.2.2.1 y.2.2.2.2.1)),(34,(Sl.v 1 y.2.2.2.2.2.1)),(35,(zI y.2.2.2.2.2.2.1)),(36,(zI y.2.2.2.2.2.2.2.1))]),(hT 4 [(oC [(zI y.2.2.2.2.2.2.2.2.1),(zI y.2.2.2.2.2.2.2.2.2.1),(zI y.2.2.2.2.2.2.2.2.2.2.1),(Sl.v 1 y.2.2.2.2.2.2.2.2.2.2.2.1)]),(oC y.2.2.2.2.2.2.2.2.2.2.2.2.1),(oC y.2.2.2.2.2.2.2.2.2.2.2.2.2)]))) (fun y=>QE pu n (Gl pu n w0) y.1 y.2.1 y.2.2.1 y.2.2.2.1 y.2.2.2.2.1 y.2.2.2.2.2.1 y.2.2.2.2.2.2.1 y.2.2.2.2.2.2.2.1 y.2.2.2.2.2.2.2.2.1 y.2.2.2.2.2.2.2.2.2.1 y.2.2.2.2.2.2.2.2.2.2.1 y.2.2.2.2.2.2.2.2.2.2.2.1 y.2.2.2.2.2.2.2.2.2.2.2.2.1 y.2.2.2.2.2.2.2.2.2.2.2.2.2) ?_ ?_
   ·rintro⟨s5,n4,c5,n5,c6,s6,z8,z9,z10,z11,z12,s7,q5,q6⟩ hm
    unfold QE at hm
    refine .rK ?_
    replace hm:=Ae hm;obtain⟨h5,hm⟩:=hm
    replace hm:=Ae hm;obtain⟨h6,hm⟩:=hm
    exact⟨(s5,n4,c5,n5,c6,s6,z8,(Aj .i64 (Int.add z9 (1:Int))),z10,z11,z12,s7,q5,q6),hm,(.k [2,3] [false] [.tmp 3 false,.tmp 5 false,.tmp 6 false] [3,4,5,6,34,35,36] ⟨A7 h5,A7 h6,trivial⟩)⟩
   ·refine .block (.then ?_)
    replace hm:=Ab hm;obtain⟨k1,h7,hm⟩:=hm
    obtain rfl:=AR h7
    replace hm:=Ae hm;obtain⟨h8,hm⟩:=hm
    replace hm:=oI hm;obtain⟨x0,h9,hm⟩:=hm
    refine .reg (eD (keep (hT 4 [(oC [zI z5,zI z6,zI z7,Sl.v 1 s4]),oC q3,oC q4]) (bb (an (Nat.blt k1 (Sl.n s3)) true) (some (Cv (k1*1) (Sl.cs s3))) none)) (AX h8) (eD (keep (hT 4 [(oC [zI z5,zI z6,zI z7,Sl.v 1 s4]),oC q3,oC q4]) (AL (Sl.cs s3) (k1*1))) (AZ h9) (eE))) ?_
    refine .ghs (fr 244 [(3,pt 1 0),(4,Sl.v 1 s2),(5,sc 2 0 1 n2 c2),(6,sc 3 0 1 n3 c4),(8,zI x0),(34,Sl.v 1 s3),(35,zI z3),(36,(zI (Int.ofNat k1)))]) (hT 4 [(oC [zI z5,zI z6,zI z7,Sl.v 1 s4]),oC q3,oC q4]) (.k [2,3] [false] [.tmp 3 false,.tmp 5 false,.tmp 6 false] [3,4,5,6,8,34,35,36] ⟨A7 h0,A7 h1,trivial⟩) ?_
    refine .then ?_
    replace hm:=oS hm;obtain⟨s8,h10,hm⟩:=hm
    refine .reg (eC 6 ((oo (pu 10 [Sl.v 1 s2,zI z5,zI z6,zI x0]) none fun v=>some (v,(hT 4 [(oC [zI z5,zI z6,zI z7,Sl.v 1 s4]),oC q3,oC q4])))) (AB h10) (eE)) ?_
    refine .ghs (fr 244 [(3,pt 1 0),(4,Sl.v 1 s2),(5,sc 2 0 1 n2 c2),(6,sc 3 0 1 n3 c4),(8,zI x0),(9,Sl.v 1 s8),(34,Sl.v 1 s3),(35,zI z3),(36,(zI (Int.ofNat k1)))]) (hT 4 [(oC [zI z5,zI z6,zI z7,Sl.v 1 s4]),oC q3,oC q4]) (.k [2,3] [false] [.tmp 3 false,.tmp 5 false,.tmp 6 false] [3,4,5,6,8,9,34,35,36] ⟨A7 h0,A7 h1,trivial⟩) ?_
    refine .then ?_
    replace hm:=Ab hm;obtain⟨v0,h11,hm⟩:=hm
    replace hm:=Ch hm;obtain⟨l0,rfl,hm⟩:=hm
    replace hm:=Ad hm;obtain⟨v1,l9615_0,rfl,hm⟩:=hm
    replace hm:=Ad hm;obtain⟨v2,l9615_1,rfl,hm⟩:=hm
    replace hm:=AC hm;obtain⟨rfl,hm⟩:=hm
    replace hm:=Al hm;obtain⟨s9,rfl,hm⟩:=hm
    replace hm:=Ai hm;obtain⟨x1,rfl,hm⟩:=hm
    refine .reg (eC 3 ((oo (pu 11 [(.agg ⟨[zI z5,zI z6,zI z7,Sl.v 1 s4]⟩),Sl.v 1 s2,zI x0]) none fun v=>some (v,(hT 4 [(oC [zI z5,zI z6,zI z7,Sl.v 1 s4]),oC q3,oC q4])))) (AB h11) (eE)) ?_
    refine .ghs (fr 244 [(3,pt 1 0),(4,Sl.v 1 s2),(5,sc 2 0 1 n2 c2),(6,sc 3 0 1 n3 c4),(8,zI x0),(9,Sl.v 1 s8),(10,Sl.v 1 s9),(11,zI x1),(34,Sl.v 1 s3),(35,zI z3),(36,(zI (Int.ofNat k1)))]) (hT 4 [(oC [zI z5,zI z6,zI z7,Sl.v 1 s4]),oC q3,oC q4]) (.k [2,3] [false] [.tmp 3 false,.tmp 5 false,.tmp 6 false] [3,4,5,6,8,9,10,11,34,35,36] ⟨A7 h0,A7 h1,trivial⟩) ?_
    refine .then (.join (v:=v) (fun y:Sl×Nat×Nat×Nat×Nat×Int×Sl×Sl×Int×Int×Bool×Int×Int×Int×Sl×LV×LV=>((fr 244 [(3,pt 1 0),(4,(Sl.v 1 y.1)),(5,(sc 2 0 1 y.2.1 y.2.2.1)),(6,(sc 3 0 1 y.2.2.2.1 y.2.2.2.2.1)),(8,(zI y.2.2.2.2.2.1)),(9,(Sl.v 1 y.2.2.2.2.2.2.1)),(34,(Sl.v 1 y.2.2.2.2.2.2.2.1)),(35,(zI y.2.2.2.2.2.2.2.2.1)),(36,(zI y.2.2.2.2.2.2.2.2.2.1)),(61,(zB y.2.2.2.2.2.2.2.2.2.2.1))]),(hT 4 [(oC [(zI y.2.2.2.2.2.2.2.2.2.2.2.1),(zI y.2.2.2.2.2.2.2.2.2.2.2.2.1),(zI y.2.2.2.2.2.2.2.2.2.2.2.2.2.1),(Sl.v 1 y.2.2.2.2.2.2.2.2.2.2.2.2.2.2.1)]),(oC y.2.2.2.2.2.2.2.2.2.2.2.2.2.2.2.1),(oC y.2.2.2.2.2.2.2.2.2.2.2.2.2.2.2.2)]))) (fun y=>Ui pu n (Gl pu n w0) y.1 y.2.1 y.2.2.1 y.2.2.2.1 y.2.2.2.2.1 y.2.2.2.2.2.1 y.2.2.2.2.2.2.1 y.2.2.2.2.2.2.2.1 y.2.2.2.2.2.2.2.2.1 y.2.2.2.2.2.2.2.2.2.1 y.2.2.2.2.2.2.2.2.2.2.1 y.2.2.2.2.2.2.2.2.2.2.2.1 y.2.2.2.2.2.2.2.2.2.2.2.2.1 y.2.2.2.2.2.2.2.2.2.2.2.2.2.1 y.2.2.2.2.2.2.2.2.2.2.2.2.2.2.1 y.2.2.2.2.2.2.2.2.2.2.2.2.2.2.2.1 y.2.2.2.2.2.2.2.2.2.2.2.2.2.2.2.2) ?_ ?_)
    ·rintro⟨s10,n6,c7,n7,c8,z13,s11,s12,z14,z15,b0,z16,z17,z18,s13,q7,q8⟩ hm
     unfold Ui at hm
     replace hm:=Ag hm;rcases hm with⟨h12,hm⟩ | ⟨h12,hm⟩
     ·refine .ifT b0 (by kernel_rfl) h12 ?_
      refine .then (.rK (.ghs (fr 244 [(2,zB false)]) Ay (.k0 [false] [] [2]) ?_))
      refine .ret ?_
      exact AO (zB false) hm
     ·refine .ifF b0 (by kernel_rfl) h12 ?_
      refine .skip ?_
      replace hm:=Ae hm;obtain⟨h13,hm⟩:=hm
      replace hm:=Ae hm;obtain⟨h14,hm⟩:=hm
      refine .ghs (fr 244 [(3,pt 1 0),(4,Sl.v 1 s10),(5,sc 2 0 1 n6 c7),(6,sc 3 0 1 n7 c8),(8,zI z13),(9,Sl.v 1 s11),(34,Sl.v 1 s12),(35,zI z14),(36,zI z15)]) (hT 4 [(oC [zI z16,zI z17,zI z18,Sl.v 1 s13]),oC q7,oC q8]) (.k [2,3] [false] [.tmp 3 false,.tmp 5 false,.tmp 6 false] [3,4,5,6,8,9,34,35,36] ⟨A7 h13,A7 h14,trivial⟩) ?_
      refine .join (v:=v) (fun y:Sl×Nat×Nat×Nat×Nat×Sl×Sl×Int×Int×Int×Int×Int×Sl×LV×LV=>((fr 244 [(3,pt 1 0),(4,(Sl.v 1 y.1)),(5,(sc 2 0 1 y.2.1 y.2.2.1)),(6,(sc 3 0 1 y.2.2.2.1 y.2.2.2.2.1)),(9,(Sl.v 1 y.2.2.2.2.2.1)),(34,(Sl.v 1 y.2.2.2.2.2.2.1)),(35,(zI y.2.2.2.2.2.2.2.1)),(36,(zI y.2.2.2.2.2.2.2.2.1))]),(hT 4 [(oC [(zI y.2.2.2.2.2.2.2.2.2.1),(zI y.2.2.2.2.2.2.2.2.2.2.1),(zI y.2.2.2.2.2.2.2.2.2.2.2.1),(Sl.v 1 y.2.2.2.2.2.2.2.2.2.2.2.2.1)]),(oC y.2.2.2.2.2.2.2.2.2.2.2.2.2.1),(oC y.2.2.2.2.2.2.2.2.2.2.2.2.2.2)]))) (fun y=>QG pu n (Gl pu n w0) y.1 y.2.1 y.2.2.1 y.2.2.2.1 y.2.2.2.2.1 y.2.2.2.2.2.1 y.2.2.2.2.2.2.1 y.2.2.2.2.2.2.2.1 y.2.2.2.2.2.2.2.2.1 y.2.2.2.2.2.2.2.2.2.1 y.2.2.2.2.2.2.2.2.2.2.1 y.2.2.2.2.2.2.2.2.2.2.2.1 y.2.2.2.2.2.2.2.2.2.2.2.2.1 y.2.2.2.2.2.2.2.2.2.2.2.2.2.1 y.2.2.2.2.2.2.2.2.2.2.2.2.2.2) ?_ ?_
      ·rintro⟨s14,n8,c25,n9,c26,s15,s16,z19,z20,z21,z22,z23,s17,q9,q10⟩ hm
       unfold QG at hm
       refine .then (.rK ?_)
       replace hm:=Ae hm;obtain⟨h15,hm⟩:=hm
       replace hm:=Ae hm;obtain⟨h16,hm⟩:=hm
       refine .ghs (fr 244 [(3,pt 1 0),(4,Sl.v 1 s14),(5,sc 2 0 1 n8 c25),(6,sc 3 0 1 n9 c26),(9,Sl.v 1 s15),(12,zB false),(34,Sl.v 1 s16),(35,zI z19),(36,zI z20)]) (hT 4 [(oC [zI z21,zI z22,zI z23,Sl.v 1 s17]),oC q9,oC q10]) (.k [2,3] [false] [.tmp 3 false,.tmp 5 false,.tmp 6 false] [3,4,5,6,9,12,34,35,36] ⟨A7 h15,A7 h16,trivial⟩) ?_
       refine .join (v:=v) (fun y:Sl×Nat×Nat×Nat×Nat×Sl×Bool×Sl×Int×Int×Int×Int×Int×Sl×LV×LV=>((fr 244 [(3,pt 1 0),(4,(Sl.v 1 y.1)),(5,(sc 2 0 1 y.2.1 y.2.2.1)),(6,(sc 3 0 1 y.2.2.2.1 y.2.2.2.2.1)),(9,(Sl.v 1 y.2.2.2.2.2.1)),(12,(zB y.2.2.2.2.2.2.1)),(34,(Sl.v 1 y.2.2.2.2.2.2.2.1)),(35,(zI y.2.2.2.2.2.2.2.2.1)),(36,(zI y.2.2.2.2.2.2.2.2.2.1))]),(hT 4 [(oC [(zI y.2.2.2.2.2.2.2.2.2.2.1),(zI y.2.2.2.2.2.2.2.2.2.2.2.1),(zI y.2.2.2.2.2.2.2.2.2.2.2.2.1),(Sl.v 1 y.2.2.2.2.2.2.2.2.2.2.2.2.2.1)]),(oC y.2.2.2.2.2.2.2.2.2.2.2.2.2.2.1),(oC y.2.2.2.2.2.2.2.2.2.2.2.2.2.2.2)]))) (fun y=>OY pu n (Gl pu n w0) y.1 y.2.1 y.2.2.1 y.2.2.2.1 y.2.2.2.2.1 y.2.2.2.2.2.1 y.2.2.2.2.2.2.1 y.2.2.2.2.2.2.2.1 y.2.2.2.2.2.2.2.2.1 y.2.2.2.2.2.2.2.2.2.1 y.2.2.2.2.2.2.2.2.2.2.1 y.2.2.2.2.2.2.2.2.2.2.2.1 y.2.2.2.2.2.2.2.2.2.2.2.2.1 y.2.2.2.2.2.2.2.2.2.2.2.2.2.1 y.2.2.2.2.2.2.2.2.2.2.2.2.2.2.1 y.2.2.2.2.2.2.2.2.2.2.2.2.2.2.2) ?_ ?_
       ·rintro⟨s18,n10,c27,n11,c28,s19,b1,s20,z24,z25,z26,z27,z28,s21,q11,q12⟩ hm
        unfold OY at hm
        refine .then (.rK ?_)
        replace hm:=Ae hm;obtain⟨h17,hm⟩:=hm
        replace hm:=Ae hm;obtain⟨h18,hm⟩:=hm
        refine .ghs (fr 244 [(3,pt 1 0),(4,Sl.v 1 s18),(5,sc 2 0 1 n10 c27),(6,sc 3 0 1 n11 c28),(9,Sl.v 1 s19),(34,Sl.v 1 s20),(35,zI z24),(36,zI z25),(83,(zB (nt b1)))]) (hT 4 [(oC [zI z26,zI z27,zI z28,Sl.v 1 s21]),oC q11,oC q12]) (.k [2,3] [false] [.tmp 3 false,.tmp 5 false,.tmp 6 false] [3,4,5,6,9,34,35,36,83] ⟨A7 h17,A7 h18,trivial⟩) ?_
        replace hm:=Ag hm;rcases hm with⟨h19,hm⟩ | ⟨h19,hm⟩
        ·refine BI (nt b1) h19 ?_
         replace hm:=Ae hm;obtain⟨h20,hm⟩:=hm
         refine .reg (eC 3 (Oc 1 24 n10 c27 1 2 q11 [Sl.v 1 s19] [] (hT 5 [(oC [zI z26,zI z27,zI z28,Sl.v 1 s21]),oC q11,oC q12,(oC [Sl.v 1 s19])])) (I1 h20) (eE)) ?_
         replace hm:=Ae hm;obtain⟨h21,hm⟩:=hm
         exact⟨(s18,(n10+1),(d2 (n10+1)),n11,c28,s20,z24,z25,z26,z27,z28,s21,(Br (Am 0 q11) [Sl.v 1 s19]),q12),hm,(.k [5,3] [false] [.tmp 3 false,.tmp 5 false,.tmp 6 false] [3,4,5,6,34,35,36] ⟨A7 h21,A7 h18,trivial⟩)⟩
        ·refine BO (nt b1) h19 ?_
         refine .skip ?_
         exact⟨(s18,n10,c27,n11,c28,s20,z24,z25,z26,z27,z28,s21,q11,q12),hm,(.k [2,3] [false] [.tmp 3 false,.tmp 5 false,.tmp 6 false] [3,4,5,6,34,35,36] ⟨A7 h17,A7 h18,trivial⟩)⟩
       ·refine .then (.rK (.ghs (fr 244 [(3,pt 1 0),(4,Sl.v 1 s14),(5,sc 2 0 1 n8 c25),(6,sc 3 0 1 n9 c26),(9,Sl.v 1 s15),(12,zB false),(34,Sl.v 1 s16),(35,zI z19),(36,zI z20),(69,sc 2 0 1 n8 c25),(70,(zI (Int.ofNat n8))),(71,(zI (0:Int)))]) (hT 4 [(oC [zI z21,zI z22,zI z23,Sl.v 1 s17]),oC q9,oC q10]) (.k [2,3] [false] [.tmp 3 false,.tmp 5 false,.tmp 6 false] [3,4,5,6,9,12,34,35,36,69,70,71] ⟨A7 h15,A7 h16,trivial⟩) ?_))
        refine .block (.loopM (v:=v) (fun y:Sl×Nat×Nat×Nat×Nat×Sl×Bool×Sl×Int×Int×Nat×Nat×Int×Int×Int×Int×Int×Sl×LV×LV=>((fr 244 [(3,pt 1 0),(4,(Sl.v 1 y.1)),(5,(sc 2 0 1 y.2.1 y.2.2.1)),(6,(sc 3 0 1 y.2.2.2.1 y.2.2.2.2.1)),(9,(Sl.v 1 y.2.2.2.2.2.1)),(12,(zB y.2.2.2.2.2.2.1)),(34,(Sl.v 1 y.2.2.2.2.2.2.2.1)),(35,(zI y.2.2.2.2.2.2.2.2.1)),(36,(zI y.2.2.2.2.2.2.2.2.2.1)),(69,(sc 2 0 1 y.2.2.2.2.2.2.2.2.2.2.1 y.2.2.2.2.2.2.2.2.2.2.2.1)),(70,(zI y.2.2.2.2.2.2.2.2.2.2.2.2.1)),(71,(zI y.2.2.2.2.2.2.2.2.2.2.2.2.2.1))]),(hT 4 [(oC [(zI y.2.2.2.2.2.2.2.2.2.2.2.2.2.2.1),(zI y.2.2.2.2.2.2.2.2.2.2.2.2.2.2.2.1),(zI y.2.2.2.2.2.2.2.2.2.2.2.2.2.2.2.2.1),(Sl.v 1 y.2.2.2.2.2.2.2.2.2.2.2.2.2.2.2.2.2.1)]),(oC y.2.2.2.2.2.2.2.2.2.2.2.2.2.2.2.2.2.2.1),(oC y.2.2.2.2.2.2.2.2.2.2.2.2.2.2.2.2.2.2.2)]))) (fun w y=>QF pu n (Gl pu n w0) w y.1 y.2.1 y.2.2.1 y.2.2.2.1 y.2.2.2.2.1 y.2.2.2.2.2.1 y.2.2.2.2.2.2.1 y.2.2.2.2.2.2.2.1 y.2.2.2.2.2.2.2.2.1 y.2.2.2.2.2.2.2.2.2.1 y.2.2.2.2.2.2.2.2.2.2.1 y.2.2.2.2.2.2.2.2.2.2.2.1 y.2.2.2.2.2.2.2.2.2.2.2.2.1 y.2.2.2.2.2.2.2.2.2.2.2.2.2.1 y.2.2.2.2.2.2.2.2.2.2.2.2.2.2.1 y.2.2.2.2.2.2.2.2.2.2.2.2.2.2.2.1 y.2.2.2.2.2.2.2.2.2.2.2.2.2.2.2.2.1 y.2.2.2.2.2.2.2.2.2.2.2.2.2.2.2.2.2.1 y.2.2.2.2.2.2.2.2.2.2.2.2.2.2.2.2.2.2.1 y.2.2.2.2.2.2.2.2.2.2.2.2.2.2.2.2.2.2.2) n ⟨(s14,n8,c25,n9,c26,s15,false,s16,z19,z20,n8,c25,(Int.ofNat n8),(0:Int),z21,z22,z23,s17,q9,q10),hm,(.k [2,3] [false] [.tmp 3 false,.tmp 5 false,.tmp 6 false] [3,4,5,6,9,12,34,35,36,69,70,71] ⟨A7 h15,A7 h16,trivial⟩)⟩ (fun _=>rfl) ?_)
        rintro w1 ⟨s22,n12,c54,n13,c72,s23,b2,s24,z29,z30,n14,c77,z31,z32,z33,z34,z35,s25,q13,q14⟩ hm
        replace hm:OZ pu n (Gl pu n w0) (QF pu n (Gl pu n w0) w1) s22 n12 c54 n13 c72 s23 b2 s24 z29 z30 n14 c77 z31 z32 z33 z34 z35 s25 q13 q14=some v:=hm
        unfold OZ at hm
        refine .then (.rK ?_)
        replace hm:=Ae hm;obtain⟨h22,hm⟩:=hm
        replace hm:=Ae hm;obtain⟨h23,hm⟩:=hm
        refine .ghs (fr 244 [(3,pt 1 0),(4,Sl.v 1 s22),(5,sc 2 0 1 n12 c54),(6,sc 3 0 1 n13 c72),(9,Sl.v 1 s23),(12,zB b2),(34,Sl.v 1 s24),(35,zI z29),(36,zI z30),(69,sc 2 0 1 n14 c77),(70,zI z31),(71,zI z32),(72,(zB (AY z32 z31)))]) (hT 4 [(oC [zI z33,zI z34,zI z35,Sl.v 1 s25]),oC q13,oC q14]) (.k [2,3] [false] [.tmp 3 false,.tmp 5 false,.tmp 6 false] [3,4,5,6,9,12,34,35,36,69,70,71,72] ⟨A7 h22,A7 h23,trivial⟩) ?_
        refine .then ?_
        replace hm:=Ag hm;rcases hm with⟨h24,hm⟩ | ⟨h24,hm⟩
        ·refine BI (AY z32 z31) h24 ?_
         refine .skip (.ghs (fr 244 [(3,pt 1 0),(4,Sl.v 1 s22),(5,sc 2 0 1 n12 c54),(6,sc 3 0 1 n13 c72),(9,Sl.v 1 s23),(12,zB b2),(34,Sl.v 1 s24),(35,zI z29),(36,zI z30),(69,sc 2 0 1 n14 c77),(70,zI z31),(71,zI z32)]) (hT 4 [(oC [zI z33,zI z34,zI z35,Sl.v 1 s25]),oC q13,oC q14]) (.k [2,3] [false] [.tmp 3 false,.tmp 5 false,.tmp 6 false] [3,4,5,6,9,12,34,35,36,69,70,71] ⟨A7 h22,A7 h23,trivial⟩) ?_)
         refine .then (.block (.then ?_))
         replace hm:=Ab hm;obtain⟨k2,h25,hm⟩:=hm
         obtain rfl:=AR h25
         replace hm:=Ae hm;obtain⟨h26,hm⟩:=hm
         replace hm:=oS hm;obtain⟨s26,h27,hm⟩:=hm
         refine .reg (eD (keep (hT 4 [(oC [zI z33,zI z34,zI z35,Sl.v 1 s25]),oC q13,oC q14]) (bb (an (Nat.blt k2 n14) true) (some (.pointer (some ⟨2,(0+k2*1),none⟩))) none)) (AX h26) (eD (keep (hT 4 [(oC [zI z33,zI z34,zI z35,Sl.v 1 s25]),oC q13,oC q14]) (AL q13 (0+k2*1))) (AZ h27) (eE))) ?_
         refine .ghs (fr 244 [(3,pt 1 0),(4,Sl.v 1 s22),(5,sc 2 0 1 n12 c54),(6,sc 3 0 1 n13 c72),(9,Sl.v 1 s23),(12,zB b2),(14,Sl.v 1 s26),(34,Sl.v 1 s24),(35,zI z29),(36,zI z30),(69,sc 2 0 1 n14 c77),(70,zI z31),(71,(zI (Int.ofNat k2)))]) (hT 4 [(oC [zI z33,zI z34,zI z35,Sl.v 1 s25]),oC q13,oC q14]) (.k [2,3] [false] [.tmp 3 false,.tmp 5 false,.tmp 6 false] [3,4,5,6,9,12,14,34,35,36,69,70,71] ⟨A7 h22,A7 h23,trivial⟩) ?_
         replace hm:=Ag hm;rcases hm with⟨h28,hm⟩ | ⟨h28,hm⟩
         ·refine .reg (eD (some ((zB b2),(hT 4 [(oC [zI z33,zI z34,zI z35,Sl.v 1 s25]),oC q13,oC q14]))) (show _=some ((zB true),_) from (by rw[show b2=true from h28])) (eE)) ?_
          refine .ghs (fr 244 [(3,pt 1 0),(4,Sl.v 1 s22),(5,sc 2 0 1 n12 c54),(6,sc 3 0 1 n13 c72),(9,Sl.v 1 s23),(12,zB true),(34,Sl.v 1 s24),(35,zI z29),(36,zI z30),(69,sc 2 0 1 n14 c77),(70,zI z31),(71,(zI (Int.ofNat k2)))]) (hT 4 [(oC [zI z33,zI z34,zI z35,Sl.v 1 s25]),oC q13,oC q14]) (.k [2,3] [false] [.tmp 3 false,.tmp 5 false,.tmp 6 false] [3,4,5,6,9,12,34,35,36,69,70,71] ⟨A7 h22,A7 h23,trivial⟩) ?_
          refine .rK ?_
          exact⟨(s22,n12,c54,n13,c72,s23,true,s24,z29,z30,n14,c77,z31,(Aj .i64 (Int.add (Int.ofNat k2) (1:Int))),z33,z34,z35,s25,q13,q14),hm,(.k [2,3] [false] [.tmp 3 false,.tmp 5 false,.tmp 6 false] [3,4,5,6,9,12,34,35,36,69,70,71] ⟨A7 h22,A7 h23,trivial⟩)⟩
         ·replace hm:=Ab hm;obtain⟨v3,h30,hm⟩:=hm
          replace hm:=Ch hm;obtain⟨l2,rfl,hm⟩:=hm
          replace hm:=Ad hm;obtain⟨v4,l9931_0,rfl,hm⟩:=hm
          replace hm:=AC hm;obtain⟨rfl,hm⟩:=hm
          replace hm:=Be hm;obtain⟨b4,rfl,hm⟩:=hm
          refine .reg (eD (some ((zB b2),(hT 4 [(oC [zI z33,zI z34,zI z35,Sl.v 1 s25]),oC q13,oC q14]))) (show _=some ((zB false),_) from (by rw[show b2=false from h28])) (eC 3 (EK tabs [[some 1],[some 1]] 2 [] [] (pu 10120) [Sl.v 1 s26,Sl.v 1 s23] (hT 4 [(oC [zI z33,zI z34,zI z35,Sl.v 1 s25]),oC q13,oC q14])) (EL (as:=[Sl.v 1 s26,Sl.v 1 s23]) (H1:=(hT 4 [(oC [zI z33,zI z34,zI z35,Sl.v 1 s25]),oC q13,oC q14])) (BS (Dm (KQ (CV (z:=1) (v:=(Sl.v 1 s26)) (H:=(hT 4 [(oC [zI z33,zI z34,zI z35,Sl.v 1 s25]),oC q13,oC q14])) (by kernel_rfl) (by kernel_rfl) (by kernel_rfl)))) (BS (Dm (KQ (CV (z:=1) (v:=(Sl.v 1 s23)) (H:=(hT 4 [(oC [zI z33,zI z34,zI z35,Sl.v 1 s25]),oC q13,oC q14])) (by kernel_rfl) (by kernel_rfl) (by kernel_rfl)))) Gj)) (EI (H2:=(hT 4 [(oC [zI z33,zI z34,zI z35,Sl.v 1 s25]),oC q13,oC q14])) (v:=(zB b4)) (v':=(zB b4)) [some 0] [] [] [Sl.v 1 s26,Sl.v 1 s23] [] [] [some 0,none,none,none] [] [] (by kernel_rfl) BX (Eq.trans (by kernel_rfl) h30) BX BX)) (eE))) ?_
          refine .ghs (fr 244 [(3,pt 1 0),(4,Sl.v 1 s22),(5,sc 2 0 1 n12 c54),(6,sc 3 0 1 n13 c72),(9,Sl.v 1 s23),(12,zB b4),(34,Sl.v 1 s24),(35,zI z29),(36,zI z30),(69,sc 2 0 1 n14 c77),(70,zI z31),(71,(zI (Int.ofNat k2)))]) (hT 4 [(oC [zI z33,zI z34,zI z35,Sl.v 1 s25]),oC q13,oC q14]) (.k [2,3] [false] [.tmp 3 false,.tmp 5 false,.tmp 6 false] [3,4,5,6,9,12,34,35,36,69,70,71] ⟨A7 h22,A7 h23,trivial⟩) ?_
          refine .rK ?_
          exact⟨(s22,n12,c54,n13,c72,s23,b4,s24,z29,z30,n14,c77,z31,(Aj .i64 (Int.add (Int.ofNat k2) (1:Int))),z33,z34,z35,s25,q13,q14),hm,(.k [2,3] [false] [.tmp 3 false,.tmp 5 false,.tmp 6 false] [3,4,5,6,9,12,34,35,36,69,70,71] ⟨A7 h22,A7 h23,trivial⟩)⟩
        ·refine BO (AY z32 z31) h24 ?_
         refine .exit ?_
         exact⟨(s22,n12,c54,n13,c72,s23,b2,s24,z29,z30,z33,z34,z35,s25,q13,q14),hm,(.k [2,3] [false] [.tmp 3 false,.tmp 5 false,.tmp 6 false] [3,4,5,6,9,12,34,35,36] ⟨A7 h22,A7 h23,trivial⟩)⟩
      ·refine .then ?_
       replace hm:=Ab hm;obtain⟨v5,h32,hm⟩:=hm
       replace hm:=Ch hm;obtain⟨l3,rfl,hm⟩:=hm
       replace hm:=Ad hm;obtain⟨v6,l9949_0,rfl,hm⟩:=hm
       replace hm:=AC hm;obtain⟨rfl,hm⟩:=hm
       replace hm:=Be hm;obtain⟨b5,rfl,hm⟩:=hm
       refine .reg (eC 2 (EK tabs [[some 1],[some 1]] 2 [] [] (pu 10120) [Sl.v 1 s10,Sl.v 1 s11] (hT 4 [(oC [zI z16,zI z17,zI z18,Sl.v 1 s13]),oC q7,oC q8])) (EL (as:=[Sl.v 1 s10,Sl.v 1 s11]) (H1:=(hT 4 [(oC [zI z16,zI z17,zI z18,Sl.v 1 s13]),oC q7,oC q8])) (BS (Dm (KQ (CV (z:=1) (v:=(Sl.v 1 s10)) (H:=(hT 4 [(oC [zI z16,zI z17,zI z18,Sl.v 1 s13]),oC q7,oC q8])) (by kernel_rfl) (by kernel_rfl) (by kernel_rfl)))) (BS (Dm (KQ (CV (z:=1) (v:=(Sl.v 1 s11)) (H:=(hT 4 [(oC [zI z16,zI z17,zI z18,Sl.v 1 s13]),oC q7,oC q8])) (by kernel_rfl) (by kernel_rfl) (by kernel_rfl)))) Gj)) (EI (H2:=(hT 4 [(oC [zI z16,zI z17,zI z18,Sl.v 1 s13]),oC q7,oC q8])) (v:=(zB b5)) (v':=(zB b5)) [some 0] [] [] [Sl.v 1 s10,Sl.v 1 s11] [] [] [some 0,none,none,none] [] [] (by kernel_rfl) BX (Eq.trans (by kernel_rfl) h32) BX BX)) (eE)) ?_
       refine .ghs (fr 244 [(3,pt 1 0),(4,Sl.v 1 s10),(5,sc 2 0 1 n6 c7),(6,sc 3 0 1 n7 c8),(8,zI z13),(9,Sl.v 1 s11),(34,Sl.v 1 s12),(35,zI z14),(36,zI z15),(64,zB b5)]) (hT 4 [(oC [zI z16,zI z17,zI z18,Sl.v 1 s13]),oC q7,oC q8]) (.k [2,3] [false] [.tmp 3 false,.tmp 5 false,.tmp 6 false] [3,4,5,6,8,9,34,35,36,64] ⟨A7 h13,A7 h14,trivial⟩) ?_
       replace hm:=Ag hm;rcases hm with⟨h33,hm⟩ | ⟨h33,hm⟩
       ·refine .ifT b5 (by kernel_rfl) h33 ?_
        replace hm:=Ae hm;obtain⟨h34,hm⟩:=hm
        refine .reg (eC 3 (Oc 1 8 n7 c8 1 3 q8 [zI z13] [] (hT 5 [(oC [zI z16,zI z17,zI z18,Sl.v 1 s13]),oC q7,oC q8,(oC [zI z13])])) (I1 h34) (eE)) ?_
        replace hm:=Ae hm;obtain⟨h35,hm⟩:=hm
        exact⟨(s10,n6,c7,(n7+1),(d2 (n7+1)),s11,s12,z14,z15,z16,z17,z18,s13,q7,(Br (Am 0 q8) [zI z13])),hm,(.k [2,5] [false] [.tmp 3 false,.tmp 5 false,.tmp 6 false] [3,4,5,6,9,34,35,36] ⟨A7 h13,A7 h35,trivial⟩)⟩
       ·refine .ifF b5 (by kernel_rfl) h33 ?_
        refine .skip ?_
        exact⟨(s10,n6,c7,n7,c8,s11,s12,z14,z15,z16,z17,z18,s13,q7,q8),hm,(.k [2,3] [false] [.tmp 3 false,.tmp 5 false,.tmp 6 false] [3,4,5,6,9,34,35,36] ⟨A7 h13,A7 h14,trivial⟩)⟩
    ·replace hm:=Ag hm;rcases hm with⟨h36,hm⟩ | ⟨h36,hm⟩
     ·refine .reg (eC 1 (some ((zB (nt (Bd x1 (0:Int)))),(hT 4 [(oC [zI z5,zI z6,zI z7,Sl.v 1 s4]),oC q3,oC q4]))) (show _=some ((zB true),_) from (by rw[show (nt (Bd x1 (0:Int)))=true from h36])) (eE)) ?_
      exact⟨(s2,n2,c2,n3,c4,x0,s8,s3,z3,(Int.ofNat k1),true,z5,z6,z7,s4,q3,q4),hm,(.k [2,3] [false] [.tmp 3 false,.tmp 5 false,.tmp 6 false] [3,4,5,6,8,9,34,35,36,61] ⟨A7 h0,A7 h1,trivial⟩)⟩
     ·replace hm:=Ab hm;obtain⟨v7,h37,hm⟩:=hm
      replace hm:=Ch hm;obtain⟨l4,rfl,hm⟩:=hm
      replace hm:=Ad hm;obtain⟨v8,l9973_0,rfl,hm⟩:=hm
      replace hm:=AC hm;obtain⟨rfl,hm⟩:=hm
      replace hm:=Be hm;obtain⟨b6,rfl,hm⟩:=hm
      refine .reg (eC 1 (some ((zB (nt (Bd x1 (0:Int)))),(hT 4 [(oC [zI z5,zI z6,zI z7,Sl.v 1 s4]),oC q3,oC q4]))) (show _=some ((zB false),_) from (by rw[show (nt (Bd x1 (0:Int)))=false from h36])) (eC 3 (EK tabs [[some 1],[some 1]] 2 [] [] (pu 10120) [Sl.v 1 s8,Sl.v 1 s9] (hT 4 [(oC [zI z5,zI z6,zI z7,Sl.v 1 s4]),oC q3,oC q4])) (EL (as:=[Sl.v 1 s8,Sl.v 1 s9]) (H1:=(hT 4 [(oC [zI z5,zI z6,zI z7,Sl.v 1 s4]),oC q3,oC q4])) (BS (Dm (KQ (CV (z:=1) (v:=(Sl.v 1 s8)) (H:=(hT 4 [(oC [zI z5,zI z6,zI z7,Sl.v 1 s4]),oC q3,oC q4])) (by kernel_rfl) (by kernel_rfl) (by kernel_rfl)))) (BS (Dm (KQ (CV (z:=1) (v:=(Sl.v 1 s9)) (H:=(hT 4 [(oC [zI z5,zI z6,zI z7,Sl.v 1 s4]),oC q3,oC q4])) (by kernel_rfl) (by kernel_rfl) (by kernel_rfl)))) Gj)) (EI (H2:=(hT 4 [(oC [zI z5,zI z6,zI z7,Sl.v 1 s4]),oC q3,oC q4])) (v:=(zB b6)) (v':=(zB b6)) [some 0] [] [] [Sl.v 1 s8,Sl.v 1 s9] [] [] [some 0,none,none,none] [] [] (by kernel_rfl) BX (Eq.trans (by kernel_rfl) h37) BX BX)) (eE))) ?_
      exact⟨(s2,n2,c2,n3,c4,x0,s8,s3,z3,(Int.ofNat k1),(nt b6),z5,z6,z7,s4,q3,q4),hm,(.k [2,3] [false] [.tmp 3 false,.tmp 5 false,.tmp 6 false] [3,4,5,6,8,9,34,35,36,61] ⟨A7 h0,A7 h1,trivial⟩)⟩
  ·refine BO (AY z4 z3) h2 ?_
   refine .exit ?_
   exact⟨(s2,n2,c2,n3,c4,z5,z6,z7,s4,q3,q4),hm,(.k [2,3] [false] [.tmp 3 false,.tmp 5 false,.tmp 6 false] [3,4,5,6] ⟨A7 h0,A7 h1,trivial⟩)⟩
end
end Go.BkOM
