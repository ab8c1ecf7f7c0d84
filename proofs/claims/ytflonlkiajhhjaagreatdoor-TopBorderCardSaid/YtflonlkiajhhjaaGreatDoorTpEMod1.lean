/- Made from wip. -/
import Derived.Test.YtflonlkiajhhjaaGreatDoorTpEMod0x

set_option maxRecDepth 100000
set_option maxHeartbeats 20000000
set_option linter.unusedVariables false
namespace Go.TpEM
open Go.Sp Go.TpE
noncomputable section
def Qs (pu:Af) (n:Nat) (b0:Bool):OV:=
 (some (.bool b0))
def rA (pu:Af) (n:Nat) (z0 z1:Int) (s0:Sl) (z2:Int) (n0 c0:Nat) (q0:LV):OV:=
 (bb (an (Nat.ble (0+n0*1) (len q0)) (Au Ah (Aq (n0*1) (Am 0 q0)))) (oo (pu 10230 [(.agg ⟨[.int .i64 z1,Sl.v 1 s0]⟩),(.agg ⟨[.int .i64 z2,(Sl.v 1 (Sl.mk n0 0 (Aq (n0*1) (Am 0 q0))))]⟩)]) none fun v0=>(oo (CQ v0) none fun l0=>(ll l0 none fun v1 l0=>(ll l0 (oo (CQ v1) none fun l1=>(ll l1 none fun v2 l1=>(ll l1 none fun v3 l1=>(ll l1 none fun v4 l1=>(ll l1 (oo (Bi .i64 v2) none fun x0=>(oo (Bf v3) none fun b0=>(oo (Bi .i64 v4) none fun x1=>(bb (Bd x1 (0:Int)) (bb (nt (AY x0 (0:Int))) (bb (AY x0 (8:Int)) (bb (AY (3:Int) z0) (oo (pu 24 []) none fun v5=>(oo (Bf v5) none fun b1=>(Qs pu n b1))) (bb (nt b0) (oo (pu 24 []) none fun v6=>(oo (Bf v6) none fun b2=>(Qs pu n b2))) (Qs pu n false))) (Qs pu n false)) (Qs pu n false)) (Qs pu n false))))) fun _ _=>none))))) fun _ _=>none)))) none)
def rC (pu:Af) (n:Nat) (ih0:Int→Sl→Int→Int→Sl→Int→Nat→Nat→LV→OV) (z0:Int) (s0:Sl) (z1 z2:Int) (s1:Sl) (z3:Int) (n0 c0:Nat) (q0:LV):OV:=
 (bb (Au Ah q0) (ih0 z0 s0 (Aj .i64 (Int.add z1 (1:Int))) z2 s1 z3 n0 c0 q0) none)
def Abz (pu:Af) (n:Nat) (ih0:Int→Sl→Int→Int→Sl→Int→Nat→Nat→LV→OV) (z0:Int) (s0:Sl) (z1 z2:Int) (s1:Sl) (z3:Int) (n0 c0:Nat) (q0:LV):OV:=
 (bb (Au Ah q0) (bb (AY z1 (8:Int)) (oo (pu 17 []) none fun v0=>(oo (Bj 1 v0) none fun s2=>(oo (EA z1) none fun k1=>(bb (an (Nat.blt k1 (Sl.n s2)) true) (oo (AL (Sl.cs s2) (k1*1)) none fun v1=>(oo (Bi .i64 v1) none fun x0=>(oo (EA x0) none fun k2=>(bb (an (Nat.blt k2 (Sl.n s0)) true) (oo (AL (Sl.cs s0) (k2*1)) none fun v2=>(oo (Bi .i64 v2) none fun x1=>(bb (Bd x1 (1:Int)) (bb (GV 1 8 n0 c0 1 q0) (bb (Au Ah (Br (Am 0 q0) [(.int .i64 (Int.ofNat k1))])) (rC pu n ih0 z0 s0 (Int.ofNat k1) z2 s1 z3 (n0+1) (2*(n0+1)+bb false 1 0) (Br (Am 0 q0) [(.int .i64 (Int.ofNat k1))])) none) none) (rC pu n ih0 z0 s0 (Int.ofNat k1) z2 s1 z3 n0 c0 q0)))) none)))) none)))) (rA pu n z0 z2 s1 z3 n0 c0 q0)) none)
def rD (pu:Af) (n w:Nat):Int→Sl→Int→Int→Sl→Int→Nat→Nat→LV→OV:=
 Nat.rec (motive:=fun _=>Int→Sl→Int→Int→Sl→Int→Nat→Nat→LV→OV) (fun _ _ _ _ _ _ _ _ _=>none) (fun _ ih0=>Abz pu n ih0) w
def rE (pu:Af) (n:Nat) (z0:Int) (s0:Sl) (b0:Bool) (z1:Int) (s1:Sl):OV:=
 (bb b0 (some (.bool false)) (rD pu n n z0 s0 (0:Int) z1 s1 (8:Int) 0 0 ([]:LV)))
def SG (pu:Af) (n:Nat) (z0:Int) (s0:Sl) (z1 z2 z3:Int) (s1:Sl) (z4:Int) (s2:Sl):OV:=
 (oo (pu 21 [(.agg ⟨[.int .i64 z1,.int .i64 z2,.int .i64 z3,Sl.v 1 s1]⟩),Sl.v 1 s0,(.int .i64 (Int.tmod (Aj .i64 z0) (8:Int)))]) none fun v0=>(oo (CQ v0) none fun l0=>(ll l0 none fun v1 l0=>(ll l0 none fun v2 l0=>(ll l0 (oo (Bj 1 v1) none fun s3=>(oo (Bi .i64 v2) none fun x0=>(bb (nt (Bd x0 (0:Int))) (rE pu n (Int.tmod (Aj .i64 z0) (8:Int)) s3 true z4 s2) (rE pu n (Int.tmod (Aj .i64 z0) (8:Int)) s3 (nt (Bd (Int.ofNat (Sl.n s3)) (9:Int))) z4 s2)))) fun _ _=>none)))))
def rF (pu:Af) (n:Nat) (ih0:Int→Sl→Sl→Sl→Int→Int→Int→Int→Sl→Int→Sl→Int→Sl→LV→OV) (z0:Int) (s0 s1 s2:Sl) (z1 z2 z3 z4:Int) (s3:Sl) (z5:Int) (s4:Sl) (z6:Int) (s5:Sl) (q0:LV):OV:=
 (bb (Au Ah q0) (ih0 z0 s0 s1 s2 (Aj .i64 (Int.add z1 (1:Int))) z2 z3 z4 s3 z5 s4 z6 s5 q0) none)
def UW (pu:Af) (n:Nat) (ih0:Int→Sl→Sl→Sl→Int→Int→Int→Int→Sl→Int→Sl→Int→Sl→LV→OV) (z0:Int) (s0 s1 s2:Sl) (z1 z2 z3 z4 z5:Int) (s3:Sl) (z6:Int) (s4:Sl) (z7:Int) (s5:Sl) (q0:LV) (z8:Int) (s6:Sl):OV:=
 (oo (pu 18 [Sl.v 1 s2,.int .i64 z1]) none fun v0=>(oo (Bf v0) none fun b0=>(oo (pu 22 [Sl.v 1 s6,Sl.v 1 s0]) none fun v1=>(oo (Bf v1) none fun b1=>(bb (Au Ah q0) (bb (bq false (bq b0 b1)) (some (.bool false)) (rF pu n ih0 z0 s0 s1 s2 z2 z3 z4 z5 s3 z6 s4 z7 s5 q0)) none)))))
def OP (pu:Af) (n:Nat) (ih0:Int→Sl→Sl→Sl→Int→Int→Int→Int→Sl→Int→Sl→Int→Sl→LV→OV) (ih1:Int→Sl→Sl→Sl→Int→Sl→Int→Int→Int→Int→Int→Sl→Int→Sl→Int→Sl→LV→Int→Sl→OV) (z0:Int) (s0 s1 s2:Sl) (z1:Int) (s3:Sl) (z2 z3 z4 z5 z6:Int) (s4:Sl) (z7:Int) (s5:Sl) (z8:Int) (s6:Sl) (q0:LV) (z9:Int) (s7:Sl):OV:=
 (bb (Au Ah q0) (bb (AY z3 (8:Int)) (oo (pu 17 []) none fun v0=>(oo (Bj 1 v0) none fun s8=>(oo (EA z3) none fun k1=>(bb (an (Nat.blt k1 (Sl.n s8)) true) (oo (AL (Sl.cs s8) (k1*1)) none fun v1=>(oo (Bi .i64 v1) none fun x0=>(oo (EA x0) none fun k2=>(bb (an (Nat.blt k2 (Sl.n s3)) true) (oo (AL (Sl.cs s3) (k2*1)) none fun v2=>(oo (Bi .i64 v2) none fun x1=>(oo (pu 18 [Sl.v 1 s7,(.int .i64 (Int.ofNat k1))]) none fun v3=>(oo (Bf v3) none fun b0=>(bb (bq false (bq (Bd x1 (1:Int)) b0)) (some (.bool false)) (ih1 z0 s0 s1 s2 z1 s3 z2 (Aj .i64 (Int.add (Int.ofNat k1) (1:Int))) z4 z5 z6 s4 z7 s5 z8 s6 q0 z9 s7)))))) none)))) none)))) (UW pu n ih0 z0 s0 s1 s2 z1 z2 z4 z5 z6 s4 z7 s5 z8 s6 q0 z9 s7)) none)
def MR (pu:Af) (n:Nat) (ih0:Int→Sl→Sl→Sl→Int→Int→Int→Int→Sl→Int→Sl→Int→Sl→LV→OV) (w:Nat):Int→Sl→Sl→Sl→Int→Sl→Int→Int→Int→Int→Int→Sl→Int→Sl→Int→Sl→LV→Int→Sl→OV:=
 Nat.rec (motive:=fun _=>Int→Sl→Sl→Sl→Int→Sl→Int→Int→Int→Int→Int→Sl→Int→Sl→Int→Sl→LV→Int→Sl→OV) (fun _ _ _ _ _ _ _ _ _ _ _ _ _ _ _ _ _ _ _=>none) (fun _ ih1=>OP pu n ih0 ih1) w
def KX (pu:Af) (n:Nat) (ih0:Int→Sl→Sl→Sl→Int→Int→Int→Int→Sl→Int→Sl→Int→Sl→LV→OV) (z0:Int) (s0 s1 s2:Sl) (z1:Int) (s3:Sl) (z2:Int) (b0:Bool) (z3 z4 z5:Int) (s4:Sl) (z6:Int) (s5:Sl) (z7:Int) (s6:Sl) (q0:LV) (z8:Int) (s7:Sl):OV:=
 (bb b0 (some (.bool false)) (bb (Au Ah q0) (MR pu n ih0 n z0 s0 s1 s2 z1 s3 z2 (0:Int) z3 z4 z5 s4 z6 s5 z7 s6 q0 z8 s7) none))
def Sd (pu:Af) (n:Nat) (ih0:Int→Sl→Sl→Sl→Int→Int→Int→Int→Sl→Int→Sl→Int→Sl→LV→OV) (z0:Int) (s0 s1 s2:Sl) (z1 z2 z3 z4 z5:Int) (s3:Sl) (z6:Int) (s4:Sl) (z7:Int) (s5:Sl) (q0:LV) (z8:Int) (s6:Sl):OV:=
 (oo (EA z1) none fun k1=>(bb (Nat.blt k1 8) (oo (AL q0 (0+k1*1)) none fun v0=>(oo (Bi .i64 v0) none fun x0=>(oo (pu 20 [(.agg ⟨[.int .i64 z8,Sl.v 1 s6]⟩),.int .i64 x0]) none fun v1=>(oo (CQ v1) none fun l0=>(ll l0 none fun v2 l0=>(ll l0 none fun v3 l0=>(ll l0 (oo (Bt v2) none fun l1=>(ll l1 none fun v4 l1=>(ll l1 none fun v5 l1=>(ll l1 (oo (Bi .i64 v4) none fun x1=>(oo (Bj 1 v5) none fun s7=>(oo (Bi .i64 v3) none fun x2=>(bb (Au Ah q0) (oo (pu 21 [(.agg ⟨[.int .i64 z3,.int .i64 z4,.int .i64 z5,Sl.v 1 s3]⟩),Sl.v 1 s1,(.int .i64 (Int.ofNat k1))]) none fun v6=>(oo (CQ v6) none fun l2=>(ll l2 none fun v7 l2=>(ll l2 none fun v8 l2=>(ll l2 (oo (Bj 1 v7) none fun s8=>(oo (Bi .i64 v8) none fun x3=>(bb (nt (Bd x2 (0:Int))) (KX pu n ih0 z0 s0 s1 s2 (Int.ofNat k1) s8 z2 true z3 z4 z5 s3 z6 s4 z7 s5 q0 x1 s7) (bb (nt (Bd x3 (0:Int))) (KX pu n ih0 z0 s0 s1 s2 (Int.ofNat k1) s8 z2 true z3 z4 z5 s3 z6 s4 z7 s5 q0 x1 s7) (bb (nt (Bd x1 (8:Int))) (KX pu n ih0 z0 s0 s1 s2 (Int.ofNat k1) s8 z2 true z3 z4 z5 s3 z6 s4 z7 s5 q0 x1 s7) (bb (nt (Bd (Int.ofNat (Sl.n s8)) (9:Int))) (KX pu n ih0 z0 s0 s1 s2 (Int.ofNat k1) s8 z2 true z3 z4 z5 s3 z6 s4 z7 s5 q0 x1 s7) (bb (an (Nat.blt 4 (Sl.n s8)) true) (oo (AL (Sl.cs s8) (4*1)) none fun v9=>(oo (Bi .i64 v9) none fun x4=>(KX pu n ih0 z0 s0 s1 s2 (Int.ofNat k1) s8 z2 (nt (Bd x4 (0:Int))) z3 z4 z5 s3 z6 s4 z7 s5 q0 x1 s7))) none))))))) fun _ _=>none))))) none)))) fun _ _=>none)))) fun _ _=>none))))))) none))
def WE (pu:Af) (n:Nat) (ih0:Int→Sl→Sl→Sl→Int→Int→Int→Int→Sl→Int→Sl→Int→Sl→LV→OV) (z0:Int) (s0 s1 s2:Sl) (z1 z2 z3 z4:Int) (s3:Sl) (z5:Int) (s4:Sl) (z6:Int) (s5:Sl) (q0:LV):OV:=
 (bb (Au Ah q0) (bb (AY z1 (8:Int)) (bb (AY (3:Int) z1) (Sd pu n ih0 z0 s0 s1 s2 z1 z1 z2 z3 z4 s3 z5 s4 z6 s5 q0 z6 s5) (Sd pu n ih0 z0 s0 s1 s2 z1 z1 z2 z3 z4 s3 z5 s4 z6 s5 q0 z5 s4)) (SG pu n z0 s1 z2 z3 z4 s3 z5 s4)) none)
def Jc (pu:Af) (n w:Nat):Int→Sl→Sl→Sl→Int→Int→Int→Int→Sl→Int→Sl→Int→Sl→LV→OV:=
 Nat.rec (motive:=fun _=>Int→Sl→Sl→Sl→Int→Int→Int→Int→Sl→Int→Sl→Int→Sl→LV→OV) (fun _ _ _ _ _ _ _ _ _ _ _ _ _ _=>none) (fun _ ih0=>WE pu n ih0) w
def SK (pu:Af) (n:Nat) (z0:Int) (s0:Sl) (n0 c0:Nat) (z1 z2 z3:Int) (s1:Sl) (q0:LV) (z4:Int) (s2:Sl) (z5:Int) (n1 c1:Nat) (q1:LV):OV:=
 (bb (an (Nat.ble (0+n1*1) (len q1)) (Au Ah (Aq (n1*1) (Am 0 q1)))) (bb (an (Nat.ble (0+n0*1) (len q0)) (Au Ah (Aq (n0*1) (Am 0 q0)))) (oo (pu 19 [(.agg ⟨[.int .i64 z1,.int .i64 z2,.int .i64 z3,Sl.v 1 s1]⟩),(Sl.v 1 (Sl.mk n0 0 (Aq (n0*1) (Am 0 q0))))]) none fun v0=>(oo (CQ v0) none fun l0=>(ll l0 none fun v1 l0=>(ll l0 none fun v2 l0=>(ll l0 (oo (Bj 1 v1) none fun s3=>(oo (Bi .i64 v2) none fun x0=>(bb (nt (Bd x0 (0:Int))) (some (.bool false)) (bb (an (Nat.ble (0+8) (len Sc)) true) (bb (Au Ah (BM ([(.int .i64 (0:Int)),(.int .i64 (2:Int)),(.int .i64 (4:Int)),(.int .i64 (6:Int)),(.int .i64 (2:Int)),(.int .i64 (6:Int)),(.int .i64 (0:Int)),(.int .i64 (4:Int))]:LV) 0 Sc)) (Jc pu n n z0 s0 (Sl.mk n0 0 (Aq (n0*1) (Am 0 q0))) s3 (0:Int) z1 z2 z3 s1 z4 s2 z5 (Sl.mk n1 0 (Aq (n1*1) (Am 0 q1))) (BM ([(.int .i64 (0:Int)),(.int .i64 (2:Int)),(.int .i64 (4:Int)),(.int .i64 (6:Int)),(.int .i64 (2:Int)),(.int .i64 (6:Int)),(.int .i64 (0:Int)),(.int .i64 (4:Int))]:LV) 0 Sc)) none) none)))) fun _ _=>none))))) none) none)
def Sg (pu:Af) (n:Nat) (ih0:Int→Sl→Nat→Nat→Int→Int→Int→Int→Sl→LV→Int→Sl→Int→Nat→Nat→LV→OV) (z0:Int) (s0:Sl) (n0 c0:Nat) (z1 z2 z3 z4:Int) (s1:Sl) (q0:LV) (z5:Int) (s2:Sl) (z6:Int) (n1 c1:Nat) (q1:LV):OV:=
 (bb (Au Ah q0) (bb (Au Ah q1) (ih0 z0 s0 n0 c0 (Aj .i64 (Int.add z1 (1:Int))) z2 z3 z4 s1 q0 z5 s2 z6 n1 c1 q1) none) none)
def OQ (pu:Af) (n:Nat) (ih0:Int→Sl→Nat→Nat→Int→Int→Int→Int→Sl→LV→Int→Sl→Int→Nat→Nat→LV→OV) (z0:Int) (s0:Sl) (n0 c0:Nat) (z1 z2 z3 z4:Int) (s1:Sl) (q0:LV) (z5:Int) (s2:Sl) (z6:Int) (n1 c1:Nat) (q1:LV):OV:=
 (bb (Au Ah q0) (bb (Au Ah q1) (bb (AY z1 (8:Int)) (oo (pu 18 [Sl.v 1 s0,(.int .i64 (Int.tmod (Aj .i64 (Int.sub (8:Int) z1)) (8:Int)))]) none fun v0=>(oo (Bf v0) none fun b0=>(bb b0 (bb (GV 1 8 n1 c1 1 q1) (bb (Au Ah (Br (Am 0 q1) [.int .i64 z1])) (Sg pu n ih0 z0 s0 n0 c0 z1 z2 z3 z4 s1 q0 z5 s2 z6 (n1+1) (2*(n1+1)+bb false 1 0) (Br (Am 0 q1) [.int .i64 z1])) none) none) (Sg pu n ih0 z0 s0 n0 c0 z1 z2 z3 z4 s1 q0 z5 s2 z6 n1 c1 q1)))) (SK pu n z0 s0 n0 c0 z2 z3 z4 s1 q0 z5 s2 z6 n1 c1 q1)) none) none)
def KZ (pu:Af) (n w:Nat):Int→Sl→Nat→Nat→Int→Int→Int→Int→Sl→LV→Int→Sl→Int→Nat→Nat→LV→OV:=
 Nat.rec (motive:=fun _=>Int→Sl→Nat→Nat→Int→Int→Int→Int→Sl→LV→Int→Sl→Int→Nat→Nat→LV→OV) (fun _ _ _ _ _ _ _ _ _ _ _ _ _ _ _ _=>none) (fun _ ih0=>OQ pu n ih0) w
def SQ (pu:Af) (n:Nat) (z0:Int) (s0:Sl) (n0 c0:Nat) (z1 z2 z3:Int) (s1:Sl) (q0:LV):OV:=
 (bb (Au Ah q0) (KZ pu n n z0 s0 n0 c0 (0:Int) z1 z2 z3 s1 q0 (8:Int) s0 (8:Int) 0 0 ([]:LV)) none)
def OT (pu:Af) (n:Nat) (ih0:Int→Sl→Nat→Nat→Sl→Int→Int→Int→Int→Int→Sl→LV→OV) (z0:Int) (s0:Sl) (n0 c0:Nat) (s1:Sl) (z1 z2 z3 z4 z5:Int) (s2:Sl) (q0:LV):OV:=
 (bb (Au Ah q0) (bb (AY z2 z1) (oo (EA z2) none fun k1=>(bb (an (Nat.blt k1 (Sl.n s1)) true) (oo (AL (Sl.cs s1) (k1*1)) none fun v0=>(oo (Bi .i64 v0) none fun x0=>(oo (pu 17 []) none fun v1=>(oo (Bj 1 v1) none fun s3=>(oo (EA x0) none fun k2=>(bb (an (Nat.blt k2 (Sl.n s3)) true) (oo (AL (Sl.cs s3) (k2*1)) none fun v2=>(oo (Bi .i64 v2) none fun x1=>(oo (EA x1) none fun k3=>(bb (an (Nat.blt k3 n0) true) (bb (an (Nat.ble ((0+k3*1)+1) (len q0)) true) (bb (Au Ah (BM ([(.int .i64 (1:Int))]:LV) (0+k3*1) q0)) (ih0 z0 s0 n0 c0 s1 z1 (Aj .i64 (Int.add (Int.ofNat k1) (1:Int))) z3 z4 z5 s2 (BM ([(.int .i64 (1:Int))]:LV) (0+k3*1) q0)) none) none) none)))) none)))))) none)) (SQ pu n z0 s0 n0 c0 z3 z4 z5 s2 q0)) none)
def MU (pu:Af) (n w:Nat):Int→Sl→Nat→Nat→Sl→Int→Int→Int→Int→Int→Sl→LV→OV:=
 Nat.rec (motive:=fun _=>Int→Sl→Nat→Nat→Sl→Int→Int→Int→Int→Int→Sl→LV→OV) (fun _ _ _ _ _ _ _ _ _ _ _ _=>none) (fun _ ih0=>OT pu n ih0) w
def m4_ (pu:Af) (n:Nat) (x1 x3:Int):OV:=
 (oo (pu 10150 [(Sl.v 1 (Sl.mk 8 0 (Aq (8*1) (Am 0 ([(.int .i64 (0:Int)),(.int .i64 (1:Int)),(.int .i64 (2:Int)),(.int .i64 (3:Int)),(.int .i64 (4:Int)),(.int .i64 (5:Int)),(.int .i64 (6:Int)),(.int .i64 (7:Int))]:LV)))))]) none fun v17=>(oo (CQ v17) none fun l19=>(ll l19 none fun v21 l19=>(ll l19 (oo (Bj 1 v21) none fun s22=>(oo (pu 16 [(.int .u32 (Aj .u32 x1)),(.int .i64 (8:Int))]) none fun v28=>(oo (Bj 1 v28) none fun s30=>(MU pu n n x3 s30 9 19 s30 (Int.ofNat (Sl.n s30)) (0:Int) (3:Int) (3:Int) (2:Int) s22 ([(.int .i64 (0:Int)),(.int .i64 (0:Int)),(.int .i64 (0:Int)),(.int .i64 (0:Int)),(.int .i64 (0:Int)),(.int .i64 (0:Int)),(.int .i64 (0:Int)),(.int .i64 (0:Int)),(.int .i64 (0:Int))]:LV))))) fun _ _=>none))))
def m4 (pu:Af) (n:Nat) (args:LV):OV:=
 (ll args none fun a0 args=>(ll args none fun a1 args=>(ll args (oo (Bi .u8 a0) none fun x1=>(oo (Bi .u8 a1) none fun x3=>(m4_ pu n x1 x3))) fun _ _=>none)))
theorem AjB (pu:Af) (n:Nat) (b0:Bool) {v:Value} (hm:Qs pu n b0=some v):BN tt (Bb tabs isP pu (inl pu)) 2 .ret (fr 212 [(4,zB b0)]) (hT 2 [(.cells Ay true false [])]) (Fin tt 2 [.tmp 4] v):=by
 unfold Qs at hm
 refine .ret ?_
 exact AO (zB b0) hm
theorem AjC (pu:Af) (n:Nat) (z0 z1:Int) (s0:Sl) (z2:Int) (n0 c0:Nat) (q0:LV) {v:Value} (hm:rA pu n z0 z1 s0 z2 n0 c0 q0=some v):BN tt (Bb tabs isP pu (inl pu)) 2 XL (fr 212 [(10,(pt 2 0)),(23,zI z0),(26,(pt 3 0))]) (hT 5 [(.cells Ay true false []),(oC [zI z1,Sl.v 1 s0]),(oC [zI z2,sc 4 0 1 n0 c0]),oC q0]) (Fin tt 2 [.tmp 4] v):=by
 unfold rA at hm
 refine .then ?_
 replace hm:=Ae hm;obtain⟨h0,hm⟩:=hm
 refine .ghs (fr 212 [(10,(pt 2 0)),(23,zI z0),(26,(pt 3 0))]) (hT 5 [(.cells Ay true false []),(oC [zI z1,Sl.v 1 s0]),(oC [zI z2,(Sl.v 1 (Sl.mk n0 0 (Aq (n0*1) (Am 0 q0))))]),.dead]) (.frzC 2 3 1 [zI z2,sc 4 0 1 n0 c0] (an (Nat.ble (0+n0*1) (len q0)) (Au Ah (Aq (n0*1) (Am 0 q0)))) (v:=(sc 4 0 1 n0 c0)) (v':=(Sl.v 1 (Sl.mk n0 0 (Aq (n0*1) (Am 0 q0))))) (H1:=(hT 5 [(.cells Ay true false []),(oC [zI z1,Sl.v 1 s0]),(oC [zI z2,sc 4 0 1 n0 c0]),.dead])) (imm:=false) (spent:=false) (anc:=[]) h0 (E9.id _ _)) ?_
 replace hm:=Ab hm;obtain⟨v0,h1,hm⟩:=hm
 replace hm:=Ch hm;obtain⟨l0,rfl,hm⟩:=hm
 replace hm:=Ad hm;obtain⟨v1,l3587_0,rfl,hm⟩:=hm
 replace hm:=AC hm;obtain⟨rfl,hm⟩:=hm
 replace hm:=Ch hm;obtain⟨l1,rfl,hm⟩:=hm
 replace hm:=Ad hm;obtain⟨v2,l3590_0,rfl,hm⟩:=hm
 replace hm:=Ad hm;obtain⟨v3,l3590_1,rfl,hm⟩:=hm
 replace hm:=Ad hm;obtain⟨v4,l3590_2,rfl,hm⟩:=hm
 replace hm:=AC hm;obtain⟨rfl,hm⟩:=hm
 replace hm:=Ai hm;obtain⟨x0,rfl,hm⟩:=hm
 replace hm:=Be hm;obtain⟨b0,rfl,hm⟩:=hm
 replace hm:=Ai hm;obtain⟨x1,rfl,hm⟩:=hm
 refine .reg (eC 2 (HV tabs [[none,some 1],[none,some 1]] 2 [] [] (pu 10230) [(.agg ⟨[zI z1,Sl.v 1 s0]⟩),(.agg ⟨[zI z2,(Sl.v 1 (Sl.mk n0 0 (Aq (n0*1) (Am 0 q0))))]⟩)] (hT 5 [(.cells Ay true false []),(oC [zI z1,Sl.v 1 s0]),(oC [zI z2,(Sl.v 1 (Sl.mk n0 0 (Aq (n0*1) (Am 0 q0))))]),.dead])) (Jw (as:=[(.agg ⟨[zI z1,Sl.v 1 s0]⟩),(.agg ⟨[zI z2,(Sl.v 1 (Sl.mk n0 0 (Aq (n0*1) (Am 0 q0))))]⟩)]) (H1:=(hT 5 [(.cells Ay true false []),(oC [zI z1,Sl.v 1 s0]),(oC [zI z2,(Sl.v 1 (Sl.mk n0 0 (Aq (n0*1) (Am 0 q0))))]),.dead])) (Kg (UD (KW WB (KW (eO (CV (z:=1) (v:=(Sl.v 1 s0)) (H:=(hT 5 [(.cells Ay true false []),(oC [zI z1,Sl.v 1 s0]),(oC [zI z2,(Sl.v 1 (Sl.mk n0 0 (Aq (n0*1) (Am 0 q0))))]),.dead])) (by kernel_rfl) (by kernel_rfl) (by kernel_rfl))) UC))) (Kg (UD (KW WB (KW (eO (CV (z:=1) (v:=(Sl.v 1 (Sl.mk n0 0 (Aq (n0*1) (Am 0 q0))))) (H:=(hT 5 [(.cells Ay true false []),(oC [zI z1,Sl.v 1 s0]),(oC [zI z2,(Sl.v 1 (Sl.mk n0 0 (Aq (n0*1) (Am 0 q0))))]),.dead])) (by kernel_rfl) (by kernel_rfl) (by kernel_rfl))) UC))) MG)) (Jv (H2:=(hT 5 [(.cells Ay true false []),(oC [zI z1,Sl.v 1 s0]),(oC [zI z2,(Sl.v 1 (Sl.mk n0 0 (Aq (n0*1) (Am 0 q0))))]),.dead])) (v:=(.tuple ⟨[zI x0,zB b0,zI x1]⟩)) (v':=(.tuple ⟨[zI x0,zB b0,zI x1]⟩)) [some 0,some 1] [] [] [(.agg ⟨[zI z1,Sl.v 1 s0]⟩),(.agg ⟨[zI z2,(Sl.v 1 (Sl.mk n0 0 (Aq (n0*1) (Am 0 q0))))]⟩)] [] [] [some 0,some 1,none,none,none] [] [] (by kernel_rfl) Fb (Eq.trans (by kernel_rfl) h1) Fb Fb)) (eE)) ?_
 refine .ghs (fr 212 [(23,zI z0),(28,zI x0),(29,zB b0),(30,zI x1)]) (hT 2 [(.cells Ay true false [])]) (.k0 [false,false] [] [23,28,29,30]) ?_
 refine .join (v:=v) (fun y:Bool=>((fr 212 [(4,zB y)]),(hT 2 [(.cells Ay true false [])]))) (fun y=>Qs pu n y) ?_ ?_
 ·rintro b1 hm
  exact AjB pu n b1 hm
 ·replace hm:=Ag hm;rcases hm with⟨h2,hm⟩ | ⟨h2,hm⟩
  ·replace hm:=Ag hm;rcases hm with⟨h3,hm⟩ | ⟨h3,hm⟩
   ·replace hm:=Ag hm;rcases hm with⟨h4,hm⟩ | ⟨h4,hm⟩
    ·replace hm:=Ag hm;rcases hm with⟨h5,hm⟩ | ⟨h5,hm⟩
     ·replace hm:=Yn hm;obtain⟨b2,h6,hm⟩:=hm
      refine .reg (eC 1 (some ((zB (Bd x1 (0:Int))),(hT 2 [(.cells Ay true false [])]))) (show _=some ((zB true),_) from (by rw[show (Bd x1 (0:Int))=true from h2])) (eC 2 (some ((zB (nt (AY x0 (0:Int)))),(hT 2 [(.cells Ay true false [])]))) (show _=some ((zB true),_) from (by rw[show (nt (AY x0 (0:Int)))=true from h3])) (eC 3 (some ((zB (AY x0 (8:Int))),(hT 2 [(.cells Ay true false [])]))) (show _=some ((zB true),_) from (by rw[show (AY x0 (8:Int))=true from h4])) (eC 3 (some ((zB (AY (3:Int) z0)),(hT 2 [(.cells Ay true false [])]))) (show _=some ((zB true),_) from (by rw[show (AY (3:Int) z0)=true from h5])) (eC 6 ((oo (pu 24 []) none fun v=>some (v,(hT 2 [(.cells Ay true false [])])))) (AB h6) (eE)))))) ?_
      exact⟨b2,hm,(.k0 [false,false] [] [4])⟩
     ·replace hm:=Ag hm;rcases hm with⟨h7,hm⟩ | ⟨h7,hm⟩
      ·replace hm:=Yn hm;obtain⟨b3,h8,hm⟩:=hm
       refine .reg (eN 9 (Fr.puts (fr 212 [(23,zI z0),(28,zI x0),(29,zB b0),(30,zI x1)]) [(191,zI x1),(192,zB true),(193,zB true),(194,zI x0),(195,zB true),(196,zB true),(197,zB true),(198,zI x0),(199,zB true)]) (hT 2 [(.cells Ay true false [])]) (eC 1 (some ((zB (Bd x1 (0:Int))),(hT 2 [(.cells Ay true false [])]))) (show _=some ((zB true),_) from (by rw[show (Bd x1 (0:Int))=true from h2])) (eC 2 (some ((zB (nt (AY x0 (0:Int)))),(hT 2 [(.cells Ay true false [])]))) (show _=some ((zB true),_) from (by rw[show (nt (AY x0 (0:Int)))=true from h3])) (eC 3 (some ((zB (AY x0 (8:Int))),(hT 2 [(.cells Ay true false [])]))) (show _=some ((zB true),_) from (by rw[show (AY x0 (8:Int))=true from h4])) (by kernel_rfl)))) (eC 3 (some ((zB (AY (3:Int) z0)),(hT 2 [(.cells Ay true false [])]))) (show _=some ((zB false),_) from (by rw[show (AY (3:Int) z0)=false from h5])) (eC 2 (some ((zB (nt b0)),(hT 2 [(.cells Ay true false [])]))) (show _=some ((zB true),_) from (by rw[show (nt b0)=true from h7])) (eC 3 ((oo (pu 24 []) none fun v=>some (v,(hT 2 [(.cells Ay true false [])])))) (AB h8) (eE))))) ?_
       exact⟨b3,hm,(.k0 [false,false] [] [4])⟩
      ·refine .reg (eC 1 (some ((zB (Bd x1 (0:Int))),(hT 2 [(.cells Ay true false [])]))) (show _=some ((zB true),_) from (by rw[show (Bd x1 (0:Int))=true from h2])) (eC 2 (some ((zB (nt (AY x0 (0:Int)))),(hT 2 [(.cells Ay true false [])]))) (show _=some ((zB true),_) from (by rw[show (nt (AY x0 (0:Int)))=true from h3])) (eC 3 (some ((zB (AY x0 (8:Int))),(hT 2 [(.cells Ay true false [])]))) (show _=some ((zB true),_) from (by rw[show (AY x0 (8:Int))=true from h4])) (eC 3 (some ((zB (AY (3:Int) z0)),(hT 2 [(.cells Ay true false [])]))) (show _=some ((zB false),_) from (by rw[show (AY (3:Int) z0)=false from h5])) (eC 2 (some ((zB (nt b0)),(hT 2 [(.cells Ay true false [])]))) (show _=some ((zB false),_) from (by rw[show (nt b0)=false from h7])) (eE)))))) ?_
       exact⟨false,hm,(.k0 [false,false] [] [4])⟩
    ·refine .reg (eC 1 (some ((zB (Bd x1 (0:Int))),(hT 2 [(.cells Ay true false [])]))) (show _=some ((zB true),_) from (by rw[show (Bd x1 (0:Int))=true from h2])) (eC 2 (some ((zB (nt (AY x0 (0:Int)))),(hT 2 [(.cells Ay true false [])]))) (show _=some ((zB true),_) from (by rw[show (nt (AY x0 (0:Int)))=true from h3])) (eC 3 (some ((zB (AY x0 (8:Int))),(hT 2 [(.cells Ay true false [])]))) (show _=some ((zB false),_) from (by rw[show (AY x0 (8:Int))=false from h4])) (eE)))) ?_
     exact⟨false,hm,(.k0 [false,false] [] [4])⟩
   ·refine .reg (eC 1 (some ((zB (Bd x1 (0:Int))),(hT 2 [(.cells Ay true false [])]))) (show _=some ((zB true),_) from (by rw[show (Bd x1 (0:Int))=true from h2])) (eC 2 (some ((zB (nt (AY x0 (0:Int)))),(hT 2 [(.cells Ay true false [])]))) (show _=some ((zB false),_) from (by rw[show (nt (AY x0 (0:Int)))=false from h3])) (eE))) ?_
    exact⟨false,hm,(.k0 [false,false] [] [4])⟩
  ·refine .reg (eC 1 (some ((zB (Bd x1 (0:Int))),(hT 2 [(.cells Ay true false [])]))) (show _=some ((zB false),_) from (by rw[show (Bd x1 (0:Int))=false from h2])) (eE)) ?_
   exact⟨false,hm,(.k0 [false,false] [] [4])⟩
theorem AjD (pu:Af) (n:Nat) (z0:Int) (s0:Sl) (z1 z2 z3:Int) (s1:Sl) (z4:Int) (s2:Sl) {v:Value} (hm:SG pu n z0 s0 z1 z2 z3 s1 z4 s2=some v):BN tt (Bb tabs isP pu (inl pu)) 2 XM (fr 212 [(1,(zY z0)),(5,(pt 2 0)),(7,Sl.v 1 s0),(10,(pt 3 0))]) (hT 4 [(.cells Ay true false []),(oC [zI z1,zI z2,zI z3,Sl.v 1 s1]),(oC [zI z4,Sl.v 1 s2])]) (Fin tt 2 [.tmp 4] v):=by
 unfold SG at hm
 refine .then (.rK (.ghs (fr 212 [(5,(pt 2 0)),(7,Sl.v 1 s0),(10,(pt 3 0)),(23,(zI (Int.tmod (Aj .i64 z0) (8:Int))))]) (hT 4 [(.cells Ay true false []),(oC [zI z1,zI z2,zI z3,Sl.v 1 s1]),(oC [zI z4,Sl.v 1 s2])]) (.k0 [false,false] [.tmp 5 false,.tmp 10 false] [5,7,10,23]) ?_))
 refine .then ?_
 replace hm:=Ab hm;obtain⟨v0,h0,hm⟩:=hm
 replace hm:=Ch hm;obtain⟨l0,rfl,hm⟩:=hm
 replace hm:=Ad hm;obtain⟨v1,l2899_0,rfl,hm⟩:=hm
 replace hm:=Ad hm;obtain⟨v2,l2899_1,rfl,hm⟩:=hm
 replace hm:=AC hm;obtain⟨rfl,hm⟩:=hm
 replace hm:=Al hm;obtain⟨s3,rfl,hm⟩:=hm
 replace hm:=Ai hm;obtain⟨x0,rfl,hm⟩:=hm
 refine .reg (eC 3 ((oo (pu 21 [(.agg ⟨[zI z1,zI z2,zI z3,Sl.v 1 s1]⟩),Sl.v 1 s0,(zI (Int.tmod (Aj .i64 z0) (8:Int)))]) none fun v=>some (v,(hT 4 [(.cells Ay true false []),(oC [zI z1,zI z2,zI z3,Sl.v 1 s1]),(oC [zI z4,Sl.v 1 s2])])))) (AB h0) (eE)) ?_
 refine .ghs (fr 212 [(10,(pt 2 0)),(23,(zI (Int.tmod (Aj .i64 z0) (8:Int)))),(24,Sl.v 1 s3),(25,zI x0)]) (hT 3 [(.cells Ay true false []),(oC [zI z4,Sl.v 1 s2])]) (.k0 [false,false] [.tmp 10 false] [10,23,24,25]) ?_
 refine .then (.join (v:=v) (fun y:Int×Sl×Bool×Int×Sl=>((fr 212 [(10,(pt 2 0)),(23,(zI y.1)),(24,(Sl.v 1 y.2.1)),(164,(zB y.2.2.1))]),(hT 3 [(.cells Ay true false []),(oC [(zI y.2.2.2.1),(Sl.v 1 y.2.2.2.2)])]))) (fun y=>rE pu n y.1 y.2.1 y.2.2.1 y.2.2.2.1 y.2.2.2.2) ?_ ?_)
 ·rintro⟨z5,s4,b0,z6,s5⟩ hm
  unfold rE at hm
  replace hm:=Ag hm;rcases hm with⟨h1,hm⟩ | ⟨h1,hm⟩
  ·refine .ifT b0 (by kernel_rfl) h1 ?_
   refine .then (.rK (.ghs (fr 212 [(4,zB false)]) (hT 2 [(.cells Ay true false [])]) (.k0 [false,false] [] [4]) ?_))
   refine .ret ?_
   exact AO (zB false) hm
  ·refine .ifF b0 (by kernel_rfl) h1 ?_
   refine .skip (.ghs (fr 212 [(10,(pt 2 0)),(23,zI z5),(24,Sl.v 1 s4)]) (hT 3 [(.cells Ay true false []),(oC [zI z6,Sl.v 1 s5])]) (.k0 [false,false] [.tmp 10 false] [10,23,24]) ?_)
   refine .then (.rK (.ghs (fr 212 [(10,(pt 2 0)),(23,zI z5),(24,Sl.v 1 s4),(26,(pt 3 0))]) (hT 4 [(.cells Ay true false []),(oC [zI z6,Sl.v 1 s5]),(oC [(zI (8:Int)),(.slice none 0 0)])]) (.k0 [false,false] [.tmp 10 false,.tmp 26 false] [10,23,24,26]) ?_))
   refine .join (v:=v) (fun y:Int×Int×Sl×Int×Nat×Nat×LV=>((fr 212 [(10,(pt 2 0)),(23,(zI y.1)),(26,(pt 3 0))]),(hT 5 [(.cells Ay true false []),(oC [(zI y.2.1),(Sl.v 1 y.2.2.1)]),(oC [(zI y.2.2.2.1),(sc 4 0 1 y.2.2.2.2.1 y.2.2.2.2.2.1)]),(oC y.2.2.2.2.2.2)]))) (fun y=>rA pu n y.1 y.2.1 y.2.2.1 y.2.2.2.1 y.2.2.2.2.1 y.2.2.2.2.2.1 y.2.2.2.2.2.2) ?_ ?_
   ·rintro⟨z7,z8,s6,z9,n0,c0,q0⟩ hm
    exact AjC pu n z7 z8 s6 z9 n0 c0 q0 hm
   ·refine .then (.rK (.ghs (fr 212 [(10,(pt 2 0)),(23,zI z5),(24,Sl.v 1 s4),(26,(pt 3 0)),(166,(zI (0:Int)))]) (hT 4 [(.cells Ay true false []),(oC [zI z6,Sl.v 1 s5]),(oC [(zI (8:Int)),(.slice none 0 0)])]) (.k0 [false,false] [.tmp 10 false,.tmp 26 false] [10,23,24,26,166]) ?_))
    refine .block (.loopM (v:=v) (fun y:Int×Sl×Int×Int×Sl×Int×Nat×Nat×LV=>((fr 212 [(10,(pt 2 0)),(23,(zI y.1)),(24,(Sl.v 1 y.2.1)),(26,(pt 3 0)),(166,(zI y.2.2.1))]),(hT 5 [(.cells Ay true false []),(oC [(zI y.2.2.2.1),(Sl.v 1 y.2.2.2.2.1)]),(oC [(zI y.2.2.2.2.2.1),(sc 4 0 1 y.2.2.2.2.2.2.1 y.2.2.2.2.2.2.2.1)]),(oC y.2.2.2.2.2.2.2.2)]))) (fun w y=>rD pu n w y.1 y.2.1 y.2.2.1 y.2.2.2.1 y.2.2.2.2.1 y.2.2.2.2.2.1 y.2.2.2.2.2.2.1 y.2.2.2.2.2.2.2.1 y.2.2.2.2.2.2.2.2) n ⟨(z5,s4,(0:Int),z6,s5,(8:Int),0,0,([]:LV)),hm,(.thawC 3 1 1 [(zI (8:Int)),(.slice none 0 0)] (imm:=false) (spent:=false) (anc:=[]) (by kernel_rfl) (by kernel_rfl) (by kernel_rfl) (by kernel_rfl) (.k0 [false,false] [.tmp 10 false,.tmp 26 true,.cell 3 1 false] [10,23,24,26,166]))⟩ (fun _=>rfl) ?_)
    rintro w0 ⟨z10,s7,z11,z12,s8,z13,n1,c1,q1⟩ hm
    replace hm:Abz pu n (rD pu n w0) z10 s7 z11 z12 s8 z13 n1 c1 q1=some v:=hm
    unfold Abz at hm
    refine .then (.rK ?_)
    replace hm:=Ae hm;obtain⟨h2,hm⟩:=hm
    refine .ghs (fr 212 [(10,(pt 2 0)),(23,zI z10),(24,Sl.v 1 s7),(26,(pt 3 0)),(166,zI z11),(167,(zB (AY z11 (8:Int))))]) (hT 5 [(.cells Ay true false []),(oC [zI z12,Sl.v 1 s8]),(oC [zI z13,sc 4 0 1 n1 c1]),oC q1]) (.k [4] [false,false] [.tmp 10 false,.tmp 26 true,.cell 3 1 false] [10,23,24,26,166,167] ⟨A7 h2,trivial⟩) ?_
    refine .then ?_
    replace hm:=Ag hm;rcases hm with⟨h3,hm⟩ | ⟨h3,hm⟩
    ·refine BB (AY z11 (8:Int)) h3 ?_
     refine .skip (.ghs (fr 212 [(10,(pt 2 0)),(23,zI z10),(24,Sl.v 1 s7),(26,(pt 3 0)),(166,zI z11)]) (hT 5 [(.cells Ay true false []),(oC [zI z12,Sl.v 1 s8]),(oC [zI z13,sc 4 0 1 n1 c1]),oC q1]) (.k [4] [false,false] [.tmp 10 false,.tmp 26 true,.cell 3 1 false] [10,23,24,26,166] ⟨A7 h2,trivial⟩) ?_)
     refine .join (v:=v) (fun y:Int×Sl×Int×Int×Sl×Int×Nat×Nat×LV=>((fr 212 [(10,(pt 2 0)),(23,(zI y.1)),(24,(Sl.v 1 y.2.1)),(26,(pt 3 0)),(166,(zI y.2.2.1))]),(hT 5 [(.cells Ay true false []),(oC [(zI y.2.2.2.1),(Sl.v 1 y.2.2.2.2.1)]),(oC [(zI y.2.2.2.2.2.1),(sc 4 0 1 y.2.2.2.2.2.2.1 y.2.2.2.2.2.2.2.1)]),(oC y.2.2.2.2.2.2.2.2)]))) (fun y=>rC pu n (rD pu n w0) y.1 y.2.1 y.2.2.1 y.2.2.2.1 y.2.2.2.2.1 y.2.2.2.2.2.1 y.2.2.2.2.2.2.1 y.2.2.2.2.2.2.2.1 y.2.2.2.2.2.2.2.2) ?_ ?_
     ·rintro⟨z14,s9,z15,z16,s10,z17,n2,c2,q2⟩ hm
      unfold rC at hm
      refine .rK ?_
      replace hm:=Ae hm;obtain⟨h4,hm⟩:=hm
      exact⟨(z14,s9,(Aj .i64 (Int.add z15 (1:Int))),z16,s10,z17,n2,c2,q2),hm,(.k [4] [false,false] [.tmp 10 false,.tmp 26 true,.cell 3 1 false] [10,23,24,26,166] ⟨A7 h4,trivial⟩)⟩
     ·refine .block (.then (.rK (.ghs (fr 212 [(10,(pt 2 0)),(23,zI z10),(24,Sl.v 1 s7),(26,(pt 3 0)),(27,zI z11),(166,zI z11)]) (hT 5 [(.cells Ay true false []),(oC [zI z12,Sl.v 1 s8]),(oC [zI z13,sc 4 0 1 n1 c1]),oC q1]) (.k [4] [false,false] [.tmp 10 false,.tmp 26 true,.cell 3 1 false] [10,23,24,26,27,166] ⟨A7 h2,trivial⟩) ?_)))
      refine .then ?_
      replace hm:=Sa hm;obtain⟨s11,h5,hm⟩:=hm
      replace hm:=Ab hm;obtain⟨k1,h6,hm⟩:=hm
      obtain rfl:=AR h6
      replace hm:=Ae hm;obtain⟨h7,hm⟩:=hm
      replace hm:=Gs hm;obtain⟨x1,h8,hm⟩:=hm
      replace hm:=Ab hm;obtain⟨k2,h9,hm⟩:=hm
      obtain rfl:=AR h9
      replace hm:=Ae hm;obtain⟨h10,hm⟩:=hm
      replace hm:=Gs hm;obtain⟨x2,h11,hm⟩:=hm
      refine .reg (eC 1 ((oo (pu 17 []) none fun v=>some (v,(hT 5 [(.cells Ay true false []),(oC [zI z12,Sl.v 1 s8]),(oC [zI z13,sc 4 0 1 n1 c1]),oC q1])))) (AB h5) (eC 1 (keep (hT 5 [(.cells Ay true false []),(oC [zI z12,Sl.v 1 s8]),(oC [zI z13,sc 4 0 1 n1 c1]),oC q1]) (bb (an (Nat.blt k1 (Sl.n s11)) true) (some (Cv (k1*1) (Sl.cs s11))) none)) (AX h7) (eD (keep (hT 5 [(.cells Ay true false []),(oC [zI z12,Sl.v 1 s8]),(oC [zI z13,sc 4 0 1 n1 c1]),oC q1]) (AL (Sl.cs s11) (k1*1))) (AZ h8) (eD (keep (hT 5 [(.cells Ay true false []),(oC [zI z12,Sl.v 1 s8]),(oC [zI z13,sc 4 0 1 n1 c1]),oC q1]) (bb (an (Nat.blt k2 (Sl.n s7)) true) (some (Cv (k2*1) (Sl.cs s7))) none)) (AX h10) (eD (keep (hT 5 [(.cells Ay true false []),(oC [zI z12,Sl.v 1 s8]),(oC [zI z13,sc 4 0 1 n1 c1]),oC q1]) (AL (Sl.cs s7) (k2*1))) (AZ h11) (eE)))))) ?_
      refine .ghs (fr 212 [(10,(pt 2 0)),(23,zI z10),(24,Sl.v 1 s7),(26,(pt 3 0)),(27,(zI (Int.ofNat k1))),(166,(zI (Int.ofNat k1))),(176,(zB (Bd x2 (1:Int))))]) (hT 5 [(.cells Ay true false []),(oC [zI z12,Sl.v 1 s8]),(oC [zI z13,sc 4 0 1 n1 c1]),oC q1]) (.k [4] [false,false] [.tmp 10 false,.tmp 26 true,.cell 3 1 false] [10,23,24,26,27,166,176] ⟨A7 h2,trivial⟩) ?_
      replace hm:=Ag hm;rcases hm with⟨h12,hm⟩ | ⟨h12,hm⟩
      ·refine BB (Bd x2 (1:Int)) h12 ?_
       replace hm:=Ae hm;obtain⟨h13,hm⟩:=hm
       refine .reg (eC 4 (Oc 1 8 n1 c1 1 4 q1 [(zI (Int.ofNat k1))] [] (hT 6 [(.cells Ay true false []),(oC [zI z12,Sl.v 1 s8]),(oC [zI z13,sc 4 0 1 n1 c1]),oC q1,(oC [(zI (Int.ofNat k1))])])) (I1 h13) (eE)) ?_
       replace hm:=Ae hm;obtain⟨h14,hm⟩:=hm
       exact⟨(z10,s7,(Int.ofNat k1),z12,s8,z13,(n1+1),(d2 (n1+1)),(Br (Am 0 q1) [(zI (Int.ofNat k1))])),hm,(.k [6] [false,false] [.tmp 10 false,.tmp 26 true,.cell 3 1 false] [10,23,24,26,166] ⟨A7 h14,trivial⟩)⟩
      ·refine BI (Bd x2 (1:Int)) h12 ?_
       refine .skip ?_
       exact⟨(z10,s7,(Int.ofNat k1),z12,s8,z13,n1,c1,q1),hm,(.k [4] [false,false] [.tmp 10 false,.tmp 26 true,.cell 3 1 false] [10,23,24,26,166] ⟨A7 h2,trivial⟩)⟩
    ·refine BI (AY z11 (8:Int)) h3 ?_
     refine .exit ?_
     exact⟨(z10,z12,s8,z13,n1,c1,q1),hm,(.k [4] [false,false] [.tmp 10 false,.tmp 26 true,.cell 3 1 false] [10,23,26] ⟨A7 h2,trivial⟩)⟩
 ·replace hm:=Ag hm;rcases hm with⟨h15,hm⟩ | ⟨h15,hm⟩
  ·refine .reg (eC 1 (some ((zB (nt (Bd x0 (0:Int)))),(hT 3 [(.cells Ay true false []),(oC [zI z4,Sl.v 1 s2])]))) (show _=some ((zB true),_) from (by rw[show (nt (Bd x0 (0:Int)))=true from h15])) (eE)) ?_
   exact⟨((Int.tmod (Aj .i64 z0) (8:Int)),s3,true,z4,s2),hm,(.k0 [false,false] [.tmp 10 false] [10,23,24,164])⟩
  ·refine .reg (eC 1 (some ((zB (nt (Bd x0 (0:Int)))),(hT 3 [(.cells Ay true false []),(oC [zI z4,Sl.v 1 s2])]))) (show _=some ((zB false),_) from (by rw[show (nt (Bd x0 (0:Int)))=false from h15])) (eE)) ?_
   exact⟨((Int.tmod (Aj .i64 z0) (8:Int)),s3,(nt (Bd (Int.ofNat (Sl.n s3)) (9:Int))),z4,s2),hm,(.k0 [false,false] [.tmp 10 false] [10,23,24,164])⟩
theorem AjE (pu:Af) (n:Nat) (z0:Int) (s0:Sl) (n0 c0:Nat) (z1 z2 z3:Int) (s1:Sl) (q0:LV) (z4:Int) (s2:Sl) (z5:Int) (n1 c1:Nat) (q1:LV) {v:Value} (hm:SK pu n z0 s0 n0 c0 z1 z2 z3 s1 q0 z4 s2 z5 n1 c1 q1=some v):BN tt (Bb tabs isP pu (inl pu)) 2 XN (fr 212 [(1,(zY z0)),(5,(pt 2 0)),(6,Sl.v 1 s0),(7,sc 3 0 1 n0 c0),(10,(pt 4 0)),(11,(pt 5 0))]) (hT 7 [(.cells Ay true false []),(oC [zI z1,zI z2,zI z3,Sl.v 1 s1]),oC q0,(oC [zI z4,Sl.v 1 s2]),(oC [zI z5,sc 6 0 1 n1 c1]),oC q1]) (Fin tt 2 [.tmp 4] v):=by
 unfold SK at hm
 refine .then ?_
 replace hm:=Ae hm;obtain⟨h0,hm⟩:=hm
 replace hm:=Ae hm;obtain⟨h1,hm⟩:=hm
 refine .ghs (Fr.puts (fr 212 [(1,(zY z0)),(5,(pt 2 0)),(6,Sl.v 1 s0),(7,sc 3 0 1 n0 c0),(10,(pt 4 0)),(11,(pt 5 0))]) [(7,(Sl.v 1 (Sl.mk n0 0 (Aq (n0*1) (Am 0 q0)))))]) (hT 7 [(.cells Ay true false []),(oC [zI z1,zI z2,zI z3,Sl.v 1 s1]),.dead,(oC [zI z4,Sl.v 1 s2]),(oC [zI z5,(Sl.v 1 (Sl.mk n1 0 (Aq (n1*1) (Am 0 q1))))]),.dead]) (.frzC 2 5 1 [zI z5,sc 6 0 1 n1 c1] (an (Nat.ble (0+n1*1) (len q1)) (Au Ah (Aq (n1*1) (Am 0 q1)))) (v:=(sc 6 0 1 n1 c1)) (v':=(Sl.v 1 (Sl.mk n1 0 (Aq (n1*1) (Am 0 q1))))) (H1:=(hT 7 [(.cells Ay true false []),(oC [zI z1,zI z2,zI z3,Sl.v 1 s1]),oC q0,(oC [zI z4,Sl.v 1 s2]),(oC [zI z5,sc 6 0 1 n1 c1]),.dead])) (imm:=false) (spent:=false) (anc:=[]) h0 (.freezeC 2 7 1 (an (Nat.ble (0+n0*1) (len q0)) (Au Ah (Aq (n0*1) (Am 0 q0)))) (F1:=(Fr.puts (fr 212 [(1,(zY z0)),(5,(pt 2 0)),(6,Sl.v 1 s0),(7,sc 3 0 1 n0 c0),(10,(pt 4 0)),(11,(pt 5 0))]) [(7,(Sl.v 1 (Sl.mk n0 0 (Aq (n0*1) (Am 0 q0)))))])) (H1:=(hT 7 [(.cells Ay true false []),(oC [zI z1,zI z2,zI z3,Sl.v 1 s1]),.dead,(oC [zI z4,Sl.v 1 s2]),(oC [zI z5,(Sl.v 1 (Sl.mk n1 0 (Aq (n1*1) (Am 0 q1))))]),.dead])) (by kernel_rfl) (by kernel_rfl) h1 (E9.id _ _))) ?_
 replace hm:=Ab hm;obtain⟨v0,h2,hm⟩:=hm
 replace hm:=Ch hm;obtain⟨l0,rfl,hm⟩:=hm
 replace hm:=Ad hm;obtain⟨v1,l435_0,rfl,hm⟩:=hm
 replace hm:=Ad hm;obtain⟨v2,l435_1,rfl,hm⟩:=hm
 replace hm:=AC hm;obtain⟨rfl,hm⟩:=hm
 replace hm:=Al hm;obtain⟨s3,rfl,hm⟩:=hm
 replace hm:=Ai hm;obtain⟨x0,rfl,hm⟩:=hm
 refine .reg (eC 2 ((oo (pu 19 [(.agg ⟨[zI z1,zI z2,zI z3,Sl.v 1 s1]⟩),(Sl.v 1 (Sl.mk n0 0 (Aq (n0*1) (Am 0 q0))))]) none fun v=>some (v,(hT 7 [(.cells Ay true false []),(oC [zI z1,zI z2,zI z3,Sl.v 1 s1]),.dead,(oC [zI z4,Sl.v 1 s2]),(oC [zI z5,(Sl.v 1 (Sl.mk n1 0 (Aq (n1*1) (Am 0 q1))))]),.dead])))) (AB h2) (eE)) ?_
 refine .ghs (fr 212 [(1,(zY z0)),(5,(pt 2 0)),(6,Sl.v 1 s0),(7,(Sl.v 1 (Sl.mk n0 0 (Aq (n0*1) (Am 0 q0))))),(10,(pt 3 0)),(11,(pt 4 0)),(13,Sl.v 1 s3),(14,zI x0)]) (hT 5 [(.cells Ay true false []),(oC [zI z1,zI z2,zI z3,Sl.v 1 s1]),(oC [zI z4,Sl.v 1 s2]),(oC [zI z5,(Sl.v 1 (Sl.mk n1 0 (Aq (n1*1) (Am 0 q1))))])]) (.k0 [false,false] [.tmp 5 false,.tmp 10 false,.tmp 11 false] [1,5,6,7,10,11,13,14]) ?_
 refine .then (.then (.rK (.ghs (fr 212 [(1,(zY z0)),(5,(pt 2 0)),(6,Sl.v 1 s0),(7,(Sl.v 1 (Sl.mk n0 0 (Aq (n0*1) (Am 0 q0))))),(10,(pt 3 0)),(11,(pt 4 0)),(13,Sl.v 1 s3),(76,(zB (nt (Bd x0 (0:Int)))))]) (hT 5 [(.cells Ay true false []),(oC [zI z1,zI z2,zI z3,Sl.v 1 s1]),(oC [zI z4,Sl.v 1 s2]),(oC [zI z5,(Sl.v 1 (Sl.mk n1 0 (Aq (n1*1) (Am 0 q1))))])]) (.k0 [false,false] [.tmp 5 false,.tmp 10 false,.tmp 11 false] [1,5,6,7,10,11,13,76]) ?_)))
 replace hm:=Ag hm;rcases hm with⟨h3,hm⟩ | ⟨h3,hm⟩
 ·refine BB (nt (Bd x0 (0:Int))) h3 ?_
  refine .then (.rK (.ghs (fr 212 [(4,zB false)]) (hT 2 [(.cells Ay true false [])]) (.k0 [false,false] [] [4]) ?_))
  refine .ret ?_
  exact AO (zB false) hm
 ·refine BI (nt (Bd x0 (0:Int))) h3 ?_
  refine .skip (.ghs (fr 212 [(1,(zY z0)),(5,(pt 2 0)),(6,Sl.v 1 s0),(7,(Sl.v 1 (Sl.mk n0 0 (Aq (n0*1) (Am 0 q0))))),(10,(pt 3 0)),(11,(pt 4 0)),(13,Sl.v 1 s3)]) (hT 5 [(.cells Ay true false []),(oC [zI z1,zI z2,zI z3,Sl.v 1 s1]),(oC [zI z4,Sl.v 1 s2]),(oC [zI z5,(Sl.v 1 (Sl.mk n1 0 (Aq (n1*1) (Am 0 q1))))])]) (.k0 [false,false] [.tmp 5 false,.tmp 10 false,.tmp 11 false] [1,5,6,7,10,11,13]) ?_)
  refine .then ?_
  replace hm:=Ae hm;obtain⟨h4,hm⟩:=hm
  refine .reg (eC 2 (done (bb (an (Nat.ble (0+8) (len Sc)) true) (some (hT 6 [(.cells Ay true false []),(oC [zI z1,zI z2,zI z3,Sl.v 1 s1]),(oC [zI z4,Sl.v 1 s2]),(oC [zI z5,(Sl.v 1 (Sl.mk n1 0 (Aq (n1*1) (Am 0 q1))))]),(oC (BM ([(zI (0:Int)),(zI (2:Int)),(zI (4:Int)),(zI (6:Int)),(zI (2:Int)),(zI (6:Int)),(zI (0:Int)),(zI (4:Int))]:LV) 0 Sc))])) none) undef) (Js h4) (eE)) ?_
  replace hm:=Ae hm;obtain⟨h5,hm⟩:=hm
  refine .ghs (fr 212 [(1,(zY z0)),(5,(pt 2 0)),(6,Sl.v 1 s0),(7,(Sl.v 1 (Sl.mk n0 0 (Aq (n0*1) (Am 0 q0))))),(10,(pt 3 0)),(11,(pt 4 0)),(13,Sl.v 1 s3),(15,(pt 5 0))]) (hT 6 [(.cells Ay true false []),(oC [zI z1,zI z2,zI z3,Sl.v 1 s1]),(oC [zI z4,Sl.v 1 s2]),(oC [zI z5,(Sl.v 1 (Sl.mk n1 0 (Aq (n1*1) (Am 0 q1))))]),(oC (BM ([(zI (0:Int)),(zI (2:Int)),(zI (4:Int)),(zI (6:Int)),(zI (2:Int)),(zI (6:Int)),(zI (0:Int)),(zI (4:Int))]:LV) 0 Sc))]) (.k [5] [false,false] [.tmp 5 false,.tmp 10 false,.tmp 11 false,.tmp 15 false] [1,5,6,7,10,11,13,15] ⟨A7 h5,trivial⟩) ?_
  refine .join (v:=v) (fun y:Int×Sl×Int×Int×Int×Sl×Int×Sl=>((fr 212 [(1,(zY y.1)),(5,(pt 2 0)),(7,(Sl.v 1 y.2.1)),(10,(pt 3 0))]),(hT 4 [(.cells Ay true false []),(oC [(zI y.2.2.1),(zI y.2.2.2.1),(zI y.2.2.2.2.1),(Sl.v 1 y.2.2.2.2.2.1)]),(oC [(zI y.2.2.2.2.2.2.1),(Sl.v 1 y.2.2.2.2.2.2.2)])]))) (fun y=>SG pu n y.1 y.2.1 y.2.2.1 y.2.2.2.1 y.2.2.2.2.1 y.2.2.2.2.2.1 y.2.2.2.2.2.2.1 y.2.2.2.2.2.2.2) ?_ ?_
  ·rintro⟨z6,s4,z7,z8,z9,s5,z10,s6⟩ hm
   exact AjD pu n z6 s4 z7 z8 z9 s5 z10 s6 hm
  ·refine .then (.rK (.ghs (fr 212 [(1,(zY z0)),(5,(pt 2 0)),(6,Sl.v 1 s0),(7,(Sl.v 1 (Sl.mk n0 0 (Aq (n0*1) (Am 0 q0))))),(10,(pt 3 0)),(11,(pt 4 0)),(13,Sl.v 1 s3),(15,(pt 5 0)),(78,(zI (0:Int)))]) (hT 6 [(.cells Ay true false []),(oC [zI z1,zI z2,zI z3,Sl.v 1 s1]),(oC [zI z4,Sl.v 1 s2]),(oC [zI z5,(Sl.v 1 (Sl.mk n1 0 (Aq (n1*1) (Am 0 q1))))]),(oC (BM ([(zI (0:Int)),(zI (2:Int)),(zI (4:Int)),(zI (6:Int)),(zI (2:Int)),(zI (6:Int)),(zI (0:Int)),(zI (4:Int))]:LV) 0 Sc))]) (.k [5] [false,false] [.tmp 5 false,.tmp 10 false,.tmp 11 false,.tmp 15 false] [1,5,6,7,10,11,13,15,78] ⟨A7 h5,trivial⟩) ?_))
   refine .block (.loopM (v:=v) (fun y:Int×Sl×Sl×Sl×Int×Int×Int×Int×Sl×Int×Sl×Int×Sl×LV=>((fr 212 [(1,(zY y.1)),(5,(pt 2 0)),(6,(Sl.v 1 y.2.1)),(7,(Sl.v 1 y.2.2.1)),(10,(pt 3 0)),(11,(pt 4 0)),(13,(Sl.v 1 y.2.2.2.1)),(15,(pt 5 0)),(78,(zI y.2.2.2.2.1))]),(hT 6 [(.cells Ay true false []),(oC [(zI y.2.2.2.2.2.1),(zI y.2.2.2.2.2.2.1),(zI y.2.2.2.2.2.2.2.1),(Sl.v 1 y.2.2.2.2.2.2.2.2.1)]),(oC [(zI y.2.2.2.2.2.2.2.2.2.1),(Sl.v 1 y.2.2.2.2.2.2.2.2.2.2.1)]),(oC [(zI y.2.2.2.2.2.2.2.2.2.2.2.1),(Sl.v 1 y.2.2.2.2.2.2.2.2.2.2.2.2.1)]),(oC y.2.2.2.2.2.2.2.2.2.2.2.2.2)]))) (fun w y=>Jc pu n w y.1 y.2.1 y.2.2.1 y.2.2.2.1 y.2.2.2.2.1 y.2.2.2.2.2.1 y.2.2.2.2.2.2.1 y.2.2.2.2.2.2.2.1 y.2.2.2.2.2.2.2.2.1 y.2.2.2.2.2.2.2.2.2.1 y.2.2.2.2.2.2.2.2.2.2.1 y.2.2.2.2.2.2.2.2.2.2.2.1 y.2.2.2.2.2.2.2.2.2.2.2.2.1 y.2.2.2.2.2.2.2.2.2.2.2.2.2) n ⟨(z0,s0,(Sl.mk n0 0 (Aq (n0*1) (Am 0 q0))),s3,(0:Int),z1,z2,z3,s1,z4,s2,z5,(Sl.mk n1 0 (Aq (n1*1) (Am 0 q1))),(BM ([(zI (0:Int)),(zI (2:Int)),(zI (4:Int)),(zI (6:Int)),(zI (2:Int)),(zI (6:Int)),(zI (0:Int)),(zI (4:Int))]:LV) 0 Sc)),hm,(.k [5] [false,false] [.tmp 5 false,.tmp 10 false,.tmp 11 false,.tmp 15 false] [1,5,6,7,10,11,13,15,78] ⟨A7 h5,trivial⟩)⟩ (fun _=>rfl) ?_)
   rintro w0 ⟨z11,s7,s8,s9,z12,z13,z14,z15,s10,z16,s11,z17,s12,q2⟩ hm
   replace hm:WE pu n (Jc pu n w0) z11 s7 s8 s9 z12 z13 z14 z15 s10 z16 s11 z17 s12 q2=some v:=hm
   unfold WE at hm
   refine .then (.rK ?_)
   replace hm:=Ae hm;obtain⟨h6,hm⟩:=hm
   refine .ghs (fr 212 [(1,(zY z11)),(5,(pt 2 0)),(6,Sl.v 1 s7),(7,Sl.v 1 s8),(10,(pt 3 0)),(11,(pt 4 0)),(13,Sl.v 1 s9),(15,(pt 5 0)),(78,zI z12),(79,(zB (AY z12 (8:Int))))]) (hT 6 [(.cells Ay true false []),(oC [zI z13,zI z14,zI z15,Sl.v 1 s10]),(oC [zI z16,Sl.v 1 s11]),(oC [zI z17,Sl.v 1 s12]),oC q2]) (.k [5] [false,false] [.tmp 5 false,.tmp 10 false,.tmp 11 false,.tmp 15 false] [1,5,6,7,10,11,13,15,78,79] ⟨A7 h6,trivial⟩) ?_
   refine .then ?_
   replace hm:=Ag hm;rcases hm with⟨h7,hm⟩ | ⟨h7,hm⟩
   ·refine BB (AY z12 (8:Int)) h7 ?_
    refine .skip (.ghs (fr 212 [(1,(zY z11)),(5,(pt 2 0)),(6,Sl.v 1 s7),(7,Sl.v 1 s8),(10,(pt 3 0)),(11,(pt 4 0)),(13,Sl.v 1 s9),(15,(pt 5 0)),(78,zI z12)]) (hT 6 [(.cells Ay true false []),(oC [zI z13,zI z14,zI z15,Sl.v 1 s10]),(oC [zI z16,Sl.v 1 s11]),(oC [zI z17,Sl.v 1 s12]),oC q2]) (.k [5] [false,false] [.tmp 5 false,.tmp 10 false,.tmp 11 false,.tmp 15 false] [1,5,6,7,10,11,13,15,78] ⟨A7 h6,trivial⟩) ?_)
    refine .join (v:=v) (fun y:Int×Sl×Sl×Sl×Int×Int×Int×Int×Sl×Int×Sl×Int×Sl×LV=>((fr 212 [(1,(zY y.1)),(5,(pt 2 0)),(6,(Sl.v 1 y.2.1)),(7,(Sl.v 1 y.2.2.1)),(10,(pt 3 0)),(11,(pt 4 0)),(13,(Sl.v 1 y.2.2.2.1)),(15,(pt 5 0)),(78,(zI y.2.2.2.2.1))]),(hT 6 [(.cells Ay true false []),(oC [(zI y.2.2.2.2.2.1),(zI y.2.2.2.2.2.2.1),(zI y.2.2.2.2.2.2.2.1),(Sl.v 1 y.2.2.2.2.2.2.2.2.1)]),(oC [(zI y.2.2.2.2.2.2.2.2.2.1),(Sl.v 1 y.2.2.2.2.2.2.2.2.2.2.1)]),(oC [(zI y.2.2.2.2.2.2.2.2.2.2.2.1),(Sl.v 1 y.2.2.2.2.2.2.2.2.2.2.2.2.1)]),(oC y.2.2.2.2.2.2.2.2.2.2.2.2.2)]))) (fun y=>rF pu n (Jc pu n w0) y.1 y.2.1 y.2.2.1 y.2.2.2.1 y.2.2.2.2.1 y.2.2.2.2.2.1 y.2.2.2.2.2.2.1 y.2.2.2.2.2.2.2.1 y.2.2.2.2.2.2.2.2.1 y.2.2.2.2.2.2.2.2.2.1 y.2.2.2.2.2.2.2.2.2.2.1 y.2.2.2.2.2.2.2.2.2.2.2.1 y.2.2.2.2.2.2.2.2.2.2.2.2.1 y.2.2.2.2.2.2.2.2.2.2.2.2.2) ?_ ?_
    ·rintro⟨z18,s13,s14,s15,z19,z20,z21,z22,s16,z23,s17,z24,s18,q3⟩ hm
     unfold rF at hm
     refine .rK ?_
     replace hm:=Ae hm;obtain⟨h8,hm⟩:=hm
     exact⟨(z18,s13,s14,s15,(Aj .i64 (Int.add z19 (1:Int))),z20,z21,z22,s16,z23,s17,z24,s18,q3),hm,(.k [5] [false,false] [.tmp 5 false,.tmp 10 false,.tmp 11 false,.tmp 15 false] [1,5,6,7,10,11,13,15,78] ⟨A7 h8,trivial⟩)⟩
    ·refine .block (.then (.rK (.ghs (fr 212 [(1,(zY z11)),(5,(pt 2 0)),(6,Sl.v 1 s7),(7,Sl.v 1 s8),(10,(pt 3 0)),(11,(pt 4 0)),(13,Sl.v 1 s9),(15,(pt 5 0)),(16,zI z12),(78,zI z12)]) (hT 6 [(.cells Ay true false []),(oC [zI z13,zI z14,zI z15,Sl.v 1 s10]),(oC [zI z16,Sl.v 1 s11]),(oC [zI z17,Sl.v 1 s12]),oC q2]) (.k [5] [false,false] [.tmp 5 false,.tmp 10 false,.tmp 11 false,.tmp 15 false] [1,5,6,7,10,11,13,15,16,78] ⟨A7 h6,trivial⟩) ?_)))
     refine .then (.rK (.ghs (fr 212 [(1,(zY z11)),(5,(pt 2 0)),(6,Sl.v 1 s7),(7,Sl.v 1 s8),(10,(pt 3 0)),(11,(pt 4 0)),(13,Sl.v 1 s9),(15,(pt 5 0)),(16,zI z12),(17,(pt 6 0)),(78,zI z12)]) (hT 7 [(.cells Ay true false []),(oC [zI z13,zI z14,zI z15,Sl.v 1 s10]),(oC [zI z16,Sl.v 1 s11]),(oC [zI z17,Sl.v 1 s12]),oC q2,(oC [zI z16,Sl.v 1 s11])]) (.k [5] [false,false] [.tmp 5 false,.tmp 10 false,.tmp 11 false,.tmp 15 false,.tmp 17 false] [1,5,6,7,10,11,13,15,16,17,78] ⟨A7 h6,trivial⟩) ?_))
     refine .join (v:=v) (fun y:Int×Sl×Sl×Sl×Int×Int×Int×Int×Int×Sl×Int×Sl×Int×Sl×LV×Int×Sl=>((fr 212 [(1,(zY y.1)),(5,(pt 2 0)),(6,(Sl.v 1 y.2.1)),(7,(Sl.v 1 y.2.2.1)),(10,(pt 3 0)),(11,(pt 4 0)),(13,(Sl.v 1 y.2.2.2.1)),(15,(pt 5 0)),(16,(zI y.2.2.2.2.1)),(17,(pt 6 0)),(78,(zI y.2.2.2.2.2.1))]),(hT 7 [(.cells Ay true false []),(oC [(zI y.2.2.2.2.2.2.1),(zI y.2.2.2.2.2.2.2.1),(zI y.2.2.2.2.2.2.2.2.1),(Sl.v 1 y.2.2.2.2.2.2.2.2.2.1)]),(oC [(zI y.2.2.2.2.2.2.2.2.2.2.1),(Sl.v 1 y.2.2.2.2.2.2.2.2.2.2.2.1)]),(oC [(zI y.2.2.2.2.2.2.2.2.2.2.2.2.1),(Sl.v 1 y.2.2.2.2.2.2.2.2.2.2.2.2.2.1)]),(oC y.2.2.2.2.2.2.2.2.2.2.2.2.2.2.1),(oC [(zI y.2.2.2.2.2.2.2.2.2.2.2.2.2.2.2.1),(Sl.v 1 y.2.2.2.2.2.2.2.2.2.2.2.2.2.2.2.2)])]))) (fun y=>Sd pu n (Jc pu n w0) y.1 y.2.1 y.2.2.1 y.2.2.2.1 y.2.2.2.2.1 y.2.2.2.2.2.1 y.2.2.2.2.2.2.1 y.2.2.2.2.2.2.2.1 y.2.2.2.2.2.2.2.2.1 y.2.2.2.2.2.2.2.2.2.1 y.2.2.2.2.2.2.2.2.2.2.1 y.2.2.2.2.2.2.2.2.2.2.2.1 y.2.2.2.2.2.2.2.2.2.2.2.2.1 y.2.2.2.2.2.2.2.2.2.2.2.2.2.1 y.2.2.2.2.2.2.2.2.2.2.2.2.2.2.1 y.2.2.2.2.2.2.2.2.2.2.2.2.2.2.2.1 y.2.2.2.2.2.2.2.2.2.2.2.2.2.2.2.2) ?_ ?_
     ·rintro⟨z25,s19,s20,s21,z26,z27,z28,z29,z30,s22,z31,s23,z32,s24,q4,z33,s25⟩ hm
      unfold Sd at hm
      refine .then ?_
      replace hm:=Ab hm;obtain⟨k1,h9,hm⟩:=hm
      obtain rfl:=AR h9
      replace hm:=Ae hm;obtain⟨h10,hm⟩:=hm
      replace hm:=Gs hm;obtain⟨x1,h11,hm⟩:=hm
      replace hm:=Ab hm;obtain⟨v3,h12,hm⟩:=hm
      replace hm:=Ch hm;obtain⟨l1,rfl,hm⟩:=hm
      replace hm:=Ad hm;obtain⟨v4,l4761_0,rfl,hm⟩:=hm
      replace hm:=Ad hm;obtain⟨v5,l4761_1,rfl,hm⟩:=hm
      replace hm:=AC hm;obtain⟨rfl,hm⟩:=hm
      replace hm:=BG hm;obtain⟨l2,rfl,hm⟩:=hm
      replace hm:=Ad hm;obtain⟨v6,l4765_0,rfl,hm⟩:=hm
      replace hm:=Ad hm;obtain⟨v7,l4765_1,rfl,hm⟩:=hm
      replace hm:=AC hm;obtain⟨rfl,hm⟩:=hm
      replace hm:=Ai hm;obtain⟨x2,rfl,hm⟩:=hm
      replace hm:=Al hm;obtain⟨s26,rfl,hm⟩:=hm
      replace hm:=Ai hm;obtain⟨x3,rfl,hm⟩:=hm
      refine .reg (eC 2 (keep (hT 7 [(.cells Ay true false []),(oC [zI z28,zI z29,zI z30,Sl.v 1 s22]),(oC [zI z31,Sl.v 1 s23]),(oC [zI z32,Sl.v 1 s24]),oC q4,(oC [zI z33,Sl.v 1 s25])]) (bb (Nat.blt k1 8) (some (.pointer (some ⟨5,(0+k1*1),none⟩))) none)) (AX h10) (eD (keep (hT 7 [(.cells Ay true false []),(oC [zI z28,zI z29,zI z30,Sl.v 1 s22]),(oC [zI z31,Sl.v 1 s23]),(oC [zI z32,Sl.v 1 s24]),oC q4,(oC [zI z33,Sl.v 1 s25])]) (AL q4 (0+k1*1))) (AZ h11) (eC 1 ((oo (pu 20 [(.agg ⟨[zI z33,Sl.v 1 s25]⟩),zI x1]) none fun v=>some (v,(hT 8 [(.cells Ay true false []),(oC [zI z28,zI z29,zI z30,Sl.v 1 s22]),(oC [zI z31,Sl.v 1 s23]),(oC [zI z32,Sl.v 1 s24]),oC q4,(oC [zI z33,Sl.v 1 s25]),(oC [(zI (0:Int)),(.slice none 0 0)])])))) (AB h12) (eE)))) ?_
      replace hm:=Ae hm;obtain⟨h13,hm⟩:=hm
      refine .ghs (fr 212 [(1,(zY z25)),(5,(pt 2 0)),(6,Sl.v 1 s19),(7,Sl.v 1 s20),(10,(pt 3 0)),(11,(pt 4 0)),(13,Sl.v 1 s21),(15,(pt 5 0)),(16,(zI (Int.ofNat k1))),(18,(pt 6 0)),(19,zI x3),(78,zI z27)]) (hT 7 [(.cells Ay true false []),(oC [zI z28,zI z29,zI z30,Sl.v 1 s22]),(oC [zI z31,Sl.v 1 s23]),(oC [zI z32,Sl.v 1 s24]),oC q4,(oC [zI x2,Sl.v 1 s26])]) (.k [5] [false,false] [.tmp 5 false,.tmp 10 false,.tmp 11 false,.tmp 15 false,.tmp 18 false] [1,5,6,7,10,11,13,15,16,18,19,78] ⟨A7 h13,trivial⟩) ?_
      refine .then ?_
      replace hm:=Ab hm;obtain⟨v8,h14,hm⟩:=hm
      replace hm:=Ch hm;obtain⟨l3,rfl,hm⟩:=hm
      replace hm:=Ad hm;obtain⟨v9,l4788_0,rfl,hm⟩:=hm
      replace hm:=Ad hm;obtain⟨v10,l4788_1,rfl,hm⟩:=hm
      replace hm:=AC hm;obtain⟨rfl,hm⟩:=hm
      replace hm:=Al hm;obtain⟨s27,rfl,hm⟩:=hm
      replace hm:=Ai hm;obtain⟨x4,rfl,hm⟩:=hm
      refine .reg (eC 3 ((oo (pu 21 [(.agg ⟨[zI z28,zI z29,zI z30,Sl.v 1 s22]⟩),Sl.v 1 s20,(zI (Int.ofNat k1))]) none fun v=>some (v,(hT 7 [(.cells Ay true false []),(oC [zI z28,zI z29,zI z30,Sl.v 1 s22]),(oC [zI z31,Sl.v 1 s23]),(oC [zI z32,Sl.v 1 s24]),oC q4,(oC [zI x2,Sl.v 1 s26])])))) (AB h14) (eE)) ?_
      refine .ghs (fr 212 [(1,(zY z25)),(5,(pt 2 0)),(6,Sl.v 1 s19),(7,Sl.v 1 s20),(10,(pt 3 0)),(11,(pt 4 0)),(13,Sl.v 1 s21),(15,(pt 5 0)),(16,(zI (Int.ofNat k1))),(18,(pt 6 0)),(19,zI x3),(20,Sl.v 1 s27),(21,zI x4),(78,zI z27)]) (hT 7 [(.cells Ay true false []),(oC [zI z28,zI z29,zI z30,Sl.v 1 s22]),(oC [zI z31,Sl.v 1 s23]),(oC [zI z32,Sl.v 1 s24]),oC q4,(oC [zI x2,Sl.v 1 s26])]) (.k [5] [false,false] [.tmp 5 false,.tmp 10 false,.tmp 11 false,.tmp 15 false,.tmp 18 false] [1,5,6,7,10,11,13,15,16,18,19,20,21,78] ⟨A7 h13,trivial⟩) ?_
      refine .then (.join (v:=v) (fun y:Int×Sl×Sl×Sl×Int×Sl×Int×Bool×Int×Int×Int×Sl×Int×Sl×Int×Sl×LV×Int×Sl=>((fr 212 [(1,(zY y.1)),(5,(pt 2 0)),(6,(Sl.v 1 y.2.1)),(7,(Sl.v 1 y.2.2.1)),(10,(pt 3 0)),(11,(pt 4 0)),(13,(Sl.v 1 y.2.2.2.1)),(15,(pt 5 0)),(16,(zI y.2.2.2.2.1)),(18,(pt 6 0)),(20,(Sl.v 1 y.2.2.2.2.2.1)),(78,(zI y.2.2.2.2.2.2.1)),(121,(zB y.2.2.2.2.2.2.2.1))]),(hT 7 [(.cells Ay true false []),(oC [(zI y.2.2.2.2.2.2.2.2.1),(zI y.2.2.2.2.2.2.2.2.2.1),(zI y.2.2.2.2.2.2.2.2.2.2.1),(Sl.v 1 y.2.2.2.2.2.2.2.2.2.2.2.1)]),(oC [(zI y.2.2.2.2.2.2.2.2.2.2.2.2.1),(Sl.v 1 y.2.2.2.2.2.2.2.2.2.2.2.2.2.1)]),(oC [(zI y.2.2.2.2.2.2.2.2.2.2.2.2.2.2.1),(Sl.v 1 y.2.2.2.2.2.2.2.2.2.2.2.2.2.2.2.1)]),(oC y.2.2.2.2.2.2.2.2.2.2.2.2.2.2.2.2.1),(oC [(zI y.2.2.2.2.2.2.2.2.2.2.2.2.2.2.2.2.2.1),(Sl.v 1 y.2.2.2.2.2.2.2.2.2.2.2.2.2.2.2.2.2.2)])]))) (fun y=>KX pu n (Jc pu n w0) y.1 y.2.1 y.2.2.1 y.2.2.2.1 y.2.2.2.2.1 y.2.2.2.2.2.1 y.2.2.2.2.2.2.1 y.2.2.2.2.2.2.2.1 y.2.2.2.2.2.2.2.2.1 y.2.2.2.2.2.2.2.2.2.1 y.2.2.2.2.2.2.2.2.2.2.1 y.2.2.2.2.2.2.2.2.2.2.2.1 y.2.2.2.2.2.2.2.2.2.2.2.2.1 y.2.2.2.2.2.2.2.2.2.2.2.2.2.1 y.2.2.2.2.2.2.2.2.2.2.2.2.2.2.1 y.2.2.2.2.2.2.2.2.2.2.2.2.2.2.2.1 y.2.2.2.2.2.2.2.2.2.2.2.2.2.2.2.2.1 y.2.2.2.2.2.2.2.2.2.2.2.2.2.2.2.2.2.1 y.2.2.2.2.2.2.2.2.2.2.2.2.2.2.2.2.2.2) ?_ ?_)
      ·rintro⟨z34,s28,s29,s30,z35,s31,z36,b0,z37,z38,z39,s32,z40,s33,z41,s34,q5,z42,s35⟩ hm
       unfold KX at hm
       replace hm:=Ag hm;rcases hm with⟨h15,hm⟩ | ⟨h15,hm⟩
       ·refine .ifT b0 (by kernel_rfl) h15 ?_
        refine .then (.rK (.ghs (fr 212 [(4,zB false)]) (hT 2 [(.cells Ay true false [])]) (.k0 [false,false] [] [4]) ?_))
        refine .ret ?_
        exact AO (zB false) hm
       ·refine .ifF b0 (by kernel_rfl) h15 ?_
        refine .skip ?_
        replace hm:=Ae hm;obtain⟨h16,hm⟩:=hm
        refine .ghs (fr 212 [(1,(zY z34)),(5,(pt 2 0)),(6,Sl.v 1 s28),(7,Sl.v 1 s29),(10,(pt 3 0)),(11,(pt 4 0)),(13,Sl.v 1 s30),(15,(pt 5 0)),(16,zI z35),(18,(pt 6 0)),(20,Sl.v 1 s31),(78,zI z36)]) (hT 7 [(.cells Ay true false []),(oC [zI z37,zI z38,zI z39,Sl.v 1 s32]),(oC [zI z40,Sl.v 1 s33]),(oC [zI z41,Sl.v 1 s34]),oC q5,(oC [zI z42,Sl.v 1 s35])]) (.k [5] [false,false] [.tmp 5 false,.tmp 10 false,.tmp 11 false,.tmp 15 false,.tmp 18 false] [1,5,6,7,10,11,13,15,16,18,20,78] ⟨A7 h16,trivial⟩) ?_
        refine .join (v:=v) (fun y:Int×Sl×Sl×Sl×Int×Int×Int×Int×Int×Sl×Int×Sl×Int×Sl×LV×Int×Sl=>((fr 212 [(1,(zY y.1)),(5,(pt 2 0)),(6,(Sl.v 1 y.2.1)),(7,(Sl.v 1 y.2.2.1)),(10,(pt 3 0)),(11,(pt 4 0)),(13,(Sl.v 1 y.2.2.2.1)),(15,(pt 5 0)),(16,(zI y.2.2.2.2.1)),(18,(pt 6 0)),(78,(zI y.2.2.2.2.2.1))]),(hT 7 [(.cells Ay true false []),(oC [(zI y.2.2.2.2.2.2.1),(zI y.2.2.2.2.2.2.2.1),(zI y.2.2.2.2.2.2.2.2.1),(Sl.v 1 y.2.2.2.2.2.2.2.2.2.1)]),(oC [(zI y.2.2.2.2.2.2.2.2.2.2.1),(Sl.v 1 y.2.2.2.2.2.2.2.2.2.2.2.1)]),(oC [(zI y.2.2.2.2.2.2.2.2.2.2.2.2.1),(Sl.v 1 y.2.2.2.2.2.2.2.2.2.2.2.2.2.1)]),(oC y.2.2.2.2.2.2.2.2.2.2.2.2.2.2.1),(oC [(zI y.2.2.2.2.2.2.2.2.2.2.2.2.2.2.2.1),(Sl.v 1 y.2.2.2.2.2.2.2.2.2.2.2.2.2.2.2.2)])]))) (fun y=>UW pu n (Jc pu n w0) y.1 y.2.1 y.2.2.1 y.2.2.2.1 y.2.2.2.2.1 y.2.2.2.2.2.1 y.2.2.2.2.2.2.1 y.2.2.2.2.2.2.2.1 y.2.2.2.2.2.2.2.2.1 y.2.2.2.2.2.2.2.2.2.1 y.2.2.2.2.2.2.2.2.2.2.1 y.2.2.2.2.2.2.2.2.2.2.2.1 y.2.2.2.2.2.2.2.2.2.2.2.2.1 y.2.2.2.2.2.2.2.2.2.2.2.2.2.1 y.2.2.2.2.2.2.2.2.2.2.2.2.2.2.1 y.2.2.2.2.2.2.2.2.2.2.2.2.2.2.2.1 y.2.2.2.2.2.2.2.2.2.2.2.2.2.2.2.2) ?_ ?_
        ·rintro⟨z43,s36,s37,s38,z44,z45,z46,z47,z48,s39,z49,s40,z50,s41,q6,z51,s42⟩ hm
         unfold UW at hm
         refine .then ?_
         replace hm:=Yn hm;obtain⟨b1,h17,hm⟩:=hm
         replace hm:=Yn hm;obtain⟨b2,h18,hm⟩:=hm
         refine .reg (eC 5 ((oo (pu 18 [Sl.v 1 s38,zI z44]) none fun v=>some (v,(hT 7 [(.cells Ay true false []),(oC [zI z46,zI z47,zI z48,Sl.v 1 s39]),(oC [zI z49,Sl.v 1 s40]),(oC [zI z50,Sl.v 1 s41]),oC q6,(oC [zI z51,Sl.v 1 s42])])))) (AB h17) (eD ((oo (pu 22 [Sl.v 1 s42,Sl.v 1 s36]) none fun v=>some (v,(hT 7 [(.cells Ay true false []),(oC [zI z46,zI z47,zI z48,Sl.v 1 s39]),(oC [zI z49,Sl.v 1 s40]),(oC [zI z50,Sl.v 1 s41]),oC q6,(oC [zI z51,Sl.v 1 s42])])))) (AB h18) (eE))) ?_
         replace hm:=Ae hm;obtain⟨h19,hm⟩:=hm
         refine .ghs (fr 212 [(1,(zY z43)),(5,(pt 2 0)),(6,Sl.v 1 s36),(7,Sl.v 1 s37),(10,(pt 3 0)),(11,(pt 4 0)),(13,Sl.v 1 s38),(15,(pt 5 0)),(78,zI z45),(146,(zB (bq false (bq b1 b2))))]) (hT 6 [(.cells Ay true false []),(oC [zI z46,zI z47,zI z48,Sl.v 1 s39]),(oC [zI z49,Sl.v 1 s40]),(oC [zI z50,Sl.v 1 s41]),oC q6]) (.k [5] [false,false] [.tmp 5 false,.tmp 10 false,.tmp 11 false,.tmp 15 false] [1,5,6,7,10,11,13,15,78,146] ⟨A7 h19,trivial⟩) ?_
         replace hm:=Ag hm;rcases hm with⟨h20,hm⟩ | ⟨h20,hm⟩
         ·refine BB (bq false (bq b1 b2)) h20 ?_
          refine .then (.rK (.ghs (fr 212 [(4,zB false)]) (hT 2 [(.cells Ay true false [])]) (.k0 [false,false] [] [4]) ?_))
          refine .ret ?_
          exact AO (zB false) hm
         ·refine BI (bq false (bq b1 b2)) h20 ?_
          refine .skip ?_
          exact⟨(z43,s36,s37,s38,z45,z46,z47,z48,s39,z49,s40,z50,s41,q6),hm,(.k [5] [false,false] [.tmp 5 false,.tmp 10 false,.tmp 11 false,.tmp 15 false] [1,5,6,7,10,11,13,15,78] ⟨A7 h19,trivial⟩)⟩
        ·refine .then (.rK (.ghs (fr 212 [(1,(zY z34)),(5,(pt 2 0)),(6,Sl.v 1 s28),(7,Sl.v 1 s29),(10,(pt 3 0)),(11,(pt 4 0)),(13,Sl.v 1 s30),(15,(pt 5 0)),(16,zI z35),(18,(pt 6 0)),(20,Sl.v 1 s31),(78,zI z36),(122,(zI (0:Int)))]) (hT 7 [(.cells Ay true false []),(oC [zI z37,zI z38,zI z39,Sl.v 1 s32]),(oC [zI z40,Sl.v 1 s33]),(oC [zI z41,Sl.v 1 s34]),oC q5,(oC [zI z42,Sl.v 1 s35])]) (.k [5] [false,false] [.tmp 5 false,.tmp 10 false,.tmp 11 false,.tmp 15 false,.tmp 18 false] [1,5,6,7,10,11,13,15,16,18,20,78,122] ⟨A7 h16,trivial⟩) ?_))
         refine .block (.loopM (v:=v) (fun y:Int×Sl×Sl×Sl×Int×Sl×Int×Int×Int×Int×Int×Sl×Int×Sl×Int×Sl×LV×Int×Sl=>((fr 212 [(1,(zY y.1)),(5,(pt 2 0)),(6,(Sl.v 1 y.2.1)),(7,(Sl.v 1 y.2.2.1)),(10,(pt 3 0)),(11,(pt 4 0)),(13,(Sl.v 1 y.2.2.2.1)),(15,(pt 5 0)),(16,(zI y.2.2.2.2.1)),(18,(pt 6 0)),(20,(Sl.v 1 y.2.2.2.2.2.1)),(78,(zI y.2.2.2.2.2.2.1)),(122,(zI y.2.2.2.2.2.2.2.1))]),(hT 7 [(.cells Ay true false []),(oC [(zI y.2.2.2.2.2.2.2.2.1),(zI y.2.2.2.2.2.2.2.2.2.1),(zI y.2.2.2.2.2.2.2.2.2.2.1),(Sl.v 1 y.2.2.2.2.2.2.2.2.2.2.2.1)]),(oC [(zI y.2.2.2.2.2.2.2.2.2.2.2.2.1),(Sl.v 1 y.2.2.2.2.2.2.2.2.2.2.2.2.2.1)]),(oC [(zI y.2.2.2.2.2.2.2.2.2.2.2.2.2.2.1),(Sl.v 1 y.2.2.2.2.2.2.2.2.2.2.2.2.2.2.2.1)]),(oC y.2.2.2.2.2.2.2.2.2.2.2.2.2.2.2.2.1),(oC [(zI y.2.2.2.2.2.2.2.2.2.2.2.2.2.2.2.2.2.1),(Sl.v 1 y.2.2.2.2.2.2.2.2.2.2.2.2.2.2.2.2.2.2)])]))) (fun w y=>MR pu n (Jc pu n w0) w y.1 y.2.1 y.2.2.1 y.2.2.2.1 y.2.2.2.2.1 y.2.2.2.2.2.1 y.2.2.2.2.2.2.1 y.2.2.2.2.2.2.2.1 y.2.2.2.2.2.2.2.2.1 y.2.2.2.2.2.2.2.2.2.1 y.2.2.2.2.2.2.2.2.2.2.1 y.2.2.2.2.2.2.2.2.2.2.2.1 y.2.2.2.2.2.2.2.2.2.2.2.2.1 y.2.2.2.2.2.2.2.2.2.2.2.2.2.1 y.2.2.2.2.2.2.2.2.2.2.2.2.2.2.1 y.2.2.2.2.2.2.2.2.2.2.2.2.2.2.2.1 y.2.2.2.2.2.2.2.2.2.2.2.2.2.2.2.2.1 y.2.2.2.2.2.2.2.2.2.2.2.2.2.2.2.2.2.1 y.2.2.2.2.2.2.2.2.2.2.2.2.2.2.2.2.2.2) n ⟨(z34,s28,s29,s30,z35,s31,z36,(0:Int),z37,z38,z39,s32,z40,s33,z41,s34,q5,z42,s35),hm,(.k [5] [false,false] [.tmp 5 false,.tmp 10 false,.tmp 11 false,.tmp 15 false,.tmp 18 false] [1,5,6,7,10,11,13,15,16,18,20,78,122] ⟨A7 h16,trivial⟩)⟩ (fun _=>rfl) ?_)
         rintro w1 ⟨z52,s43,s44,s45,z53,s46,z54,z55,z56,z57,z58,s47,z59,s48,z60,s49,q7,z61,s50⟩ hm
         replace hm:OP pu n (Jc pu n w0) (MR pu n (Jc pu n w0) w1) z52 s43 s44 s45 z53 s46 z54 z55 z56 z57 z58 s47 z59 s48 z60 s49 q7 z61 s50=some v:=hm
         unfold OP at hm
         refine .then (.rK ?_)
         replace hm:=Ae hm;obtain⟨h21,hm⟩:=hm
         refine .ghs (fr 212 [(1,(zY z52)),(5,(pt 2 0)),(6,Sl.v 1 s43),(7,Sl.v 1 s44),(10,(pt 3 0)),(11,(pt 4 0)),(13,Sl.v 1 s45),(15,(pt 5 0)),(16,zI z53),(18,(pt 6 0)),(20,Sl.v 1 s46),(78,zI z54),(122,zI z55),(123,(zB (AY z55 (8:Int))))]) (hT 7 [(.cells Ay true false []),(oC [zI z56,zI z57,zI z58,Sl.v 1 s47]),(oC [zI z59,Sl.v 1 s48]),(oC [zI z60,Sl.v 1 s49]),oC q7,(oC [zI z61,Sl.v 1 s50])]) (.k [5] [false,false] [.tmp 5 false,.tmp 10 false,.tmp 11 false,.tmp 15 false,.tmp 18 false] [1,5,6,7,10,11,13,15,16,18,20,78,122,123] ⟨A7 h21,trivial⟩) ?_
         refine .then ?_
         replace hm:=Ag hm;rcases hm with⟨h22,hm⟩ | ⟨h22,hm⟩
         ·refine BB (AY z55 (8:Int)) h22 ?_
          refine .skip (.ghs (fr 212 [(1,(zY z52)),(5,(pt 2 0)),(6,Sl.v 1 s43),(7,Sl.v 1 s44),(10,(pt 3 0)),(11,(pt 4 0)),(13,Sl.v 1 s45),(15,(pt 5 0)),(16,zI z53),(18,(pt 6 0)),(20,Sl.v 1 s46),(78,zI z54),(122,zI z55)]) (hT 7 [(.cells Ay true false []),(oC [zI z56,zI z57,zI z58,Sl.v 1 s47]),(oC [zI z59,Sl.v 1 s48]),(oC [zI z60,Sl.v 1 s49]),oC q7,(oC [zI z61,Sl.v 1 s50])]) (.k [5] [false,false] [.tmp 5 false,.tmp 10 false,.tmp 11 false,.tmp 15 false,.tmp 18 false] [1,5,6,7,10,11,13,15,16,18,20,78,122] ⟨A7 h21,trivial⟩) ?_)
          refine .then (.block (.then (.rK (.ghs (fr 212 [(1,(zY z52)),(5,(pt 2 0)),(6,Sl.v 1 s43),(7,Sl.v 1 s44),(10,(pt 3 0)),(11,(pt 4 0)),(13,Sl.v 1 s45),(15,(pt 5 0)),(16,zI z53),(18,(pt 6 0)),(20,Sl.v 1 s46),(22,zI z55),(78,zI z54),(122,zI z55)]) (hT 7 [(.cells Ay true false []),(oC [zI z56,zI z57,zI z58,Sl.v 1 s47]),(oC [zI z59,Sl.v 1 s48]),(oC [zI z60,Sl.v 1 s49]),oC q7,(oC [zI z61,Sl.v 1 s50])]) (.k [5] [false,false] [.tmp 5 false,.tmp 10 false,.tmp 11 false,.tmp 15 false,.tmp 18 false] [1,5,6,7,10,11,13,15,16,18,20,22,78,122] ⟨A7 h21,trivial⟩) ?_))))
          refine .then ?_
          replace hm:=Sa hm;obtain⟨s51,h23,hm⟩:=hm
          replace hm:=Ab hm;obtain⟨k2,h24,hm⟩:=hm
          obtain rfl:=AR h24
          replace hm:=Ae hm;obtain⟨h25,hm⟩:=hm
          replace hm:=Gs hm;obtain⟨x5,h26,hm⟩:=hm
          replace hm:=Ab hm;obtain⟨k3,h27,hm⟩:=hm
          obtain rfl:=AR h27
          replace hm:=Ae hm;obtain⟨h28,hm⟩:=hm
          replace hm:=Gs hm;obtain⟨x6,h29,hm⟩:=hm
          replace hm:=Yn hm;obtain⟨b3,h30,hm⟩:=hm
          refine .reg (eN 8 (Fr.puts (fr 212 [(1,(zY z52)),(5,(pt 2 0)),(6,Sl.v 1 s43),(7,Sl.v 1 s44),(10,(pt 3 0)),(11,(pt 4 0)),(13,Sl.v 1 s45),(15,(pt 5 0)),(16,zI z53),(18,(pt 6 0)),(20,Sl.v 1 s46),(22,(zI (Int.ofNat k2))),(78,zI z54),(122,(zI (Int.ofNat k2)))]) [(125,Sl.v 1 s46),(127,(zI (Int.ofNat k2))),(133,(pt 6 1)),(134,Sl.v 1 s50),(135,(zI (Int.ofNat k2))),(126,Sl.v 1 s51),(128,(Cv (k2*1) (Sl.cs s51))),(129,(zI (Int.ofNat k3)))]) (hT 7 [(.cells Ay true false []),(oC [zI z56,zI z57,zI z58,Sl.v 1 s47]),(oC [zI z59,Sl.v 1 s48]),(oC [zI z60,Sl.v 1 s49]),oC q7,(oC [zI z61,Sl.v 1 s50])]) (eC 5 ((oo (pu 17 []) none fun v=>some (v,(hT 7 [(.cells Ay true false []),(oC [zI z56,zI z57,zI z58,Sl.v 1 s47]),(oC [zI z59,Sl.v 1 s48]),(oC [zI z60,Sl.v 1 s49]),oC q7,(oC [zI z61,Sl.v 1 s50])])))) (AB h23) (eD (keep (hT 7 [(.cells Ay true false []),(oC [zI z56,zI z57,zI z58,Sl.v 1 s47]),(oC [zI z59,Sl.v 1 s48]),(oC [zI z60,Sl.v 1 s49]),oC q7,(oC [zI z61,Sl.v 1 s50])]) (bb (an (Nat.blt k2 (Sl.n s51)) true) (some (Cv (k2*1) (Sl.cs s51))) none)) (AX h25) (eD (keep (hT 7 [(.cells Ay true false []),(oC [zI z56,zI z57,zI z58,Sl.v 1 s47]),(oC [zI z59,Sl.v 1 s48]),(oC [zI z60,Sl.v 1 s49]),oC q7,(oC [zI z61,Sl.v 1 s50])]) (AL (Sl.cs s51) (k2*1))) (AZ h26) (by kernel_rfl)))) (eD (keep (hT 7 [(.cells Ay true false []),(oC [zI z56,zI z57,zI z58,Sl.v 1 s47]),(oC [zI z59,Sl.v 1 s48]),(oC [zI z60,Sl.v 1 s49]),oC q7,(oC [zI z61,Sl.v 1 s50])]) (bb (an (Nat.blt k3 (Sl.n s46)) true) (some (Cv (k3*1) (Sl.cs s46))) none)) (AX h28) (eD (keep (hT 7 [(.cells Ay true false []),(oC [zI z56,zI z57,zI z58,Sl.v 1 s47]),(oC [zI z59,Sl.v 1 s48]),(oC [zI z60,Sl.v 1 s49]),oC q7,(oC [zI z61,Sl.v 1 s50])]) (AL (Sl.cs s46) (k3*1))) (AZ h29) (eC 1 ((oo (pu 18 [Sl.v 1 s50,(zI (Int.ofNat k2))]) none fun v=>some (v,(hT 7 [(.cells Ay true false []),(oC [zI z56,zI z57,zI z58,Sl.v 1 s47]),(oC [zI z59,Sl.v 1 s48]),(oC [zI z60,Sl.v 1 s49]),oC q7,(oC [zI z61,Sl.v 1 s50])])))) (AB h30) (eE))))) ?_
          refine .ghs (fr 212 [(1,(zY z52)),(5,(pt 2 0)),(6,Sl.v 1 s43),(7,Sl.v 1 s44),(10,(pt 3 0)),(11,(pt 4 0)),(13,Sl.v 1 s45),(15,(pt 5 0)),(16,zI z53),(18,(pt 6 0)),(20,Sl.v 1 s46),(78,zI z54),(122,(zI (Int.ofNat k2))),(137,(zB (bq false (bq (Bd x6 (1:Int)) b3))))]) (hT 7 [(.cells Ay true false []),(oC [zI z56,zI z57,zI z58,Sl.v 1 s47]),(oC [zI z59,Sl.v 1 s48]),(oC [zI z60,Sl.v 1 s49]),oC q7,(oC [zI z61,Sl.v 1 s50])]) (.k [5] [false,false] [.tmp 5 false,.tmp 10 false,.tmp 11 false,.tmp 15 false,.tmp 18 false] [1,5,6,7,10,11,13,15,16,18,20,78,122,137] ⟨A7 h21,trivial⟩) ?_
          replace hm:=Ag hm;rcases hm with⟨h31,hm⟩ | ⟨h31,hm⟩
          ·refine BB (bq false (bq (Bd x6 (1:Int)) b3)) h31 ?_
           refine .then (.rK (.ghs (fr 212 [(4,zB false)]) (hT 2 [(.cells Ay true false [])]) (.k0 [false,false] [] [4]) ?_))
           refine .ret ?_
           exact AO (zB false) hm
          ·refine BI (bq false (bq (Bd x6 (1:Int)) b3)) h31 ?_
           refine .skip (.ghs (fr 212 [(1,(zY z52)),(5,(pt 2 0)),(6,Sl.v 1 s43),(7,Sl.v 1 s44),(10,(pt 3 0)),(11,(pt 4 0)),(13,Sl.v 1 s45),(15,(pt 5 0)),(16,zI z53),(18,(pt 6 0)),(20,Sl.v 1 s46),(78,zI z54),(122,(zI (Int.ofNat k2)))]) (hT 7 [(.cells Ay true false []),(oC [zI z56,zI z57,zI z58,Sl.v 1 s47]),(oC [zI z59,Sl.v 1 s48]),(oC [zI z60,Sl.v 1 s49]),oC q7,(oC [zI z61,Sl.v 1 s50])]) (.k [5] [false,false] [.tmp 5 false,.tmp 10 false,.tmp 11 false,.tmp 15 false,.tmp 18 false] [1,5,6,7,10,11,13,15,16,18,20,78,122] ⟨A7 h21,trivial⟩) ?_)
           refine .rK ?_
           exact⟨(z52,s43,s44,s45,z53,s46,z54,(Aj .i64 (Int.add (Int.ofNat k2) (1:Int))),z56,z57,z58,s47,z59,s48,z60,s49,q7,z61,s50),hm,(.k [5] [false,false] [.tmp 5 false,.tmp 10 false,.tmp 11 false,.tmp 15 false,.tmp 18 false] [1,5,6,7,10,11,13,15,16,18,20,78,122] ⟨A7 h21,trivial⟩)⟩
         ·refine BI (AY z55 (8:Int)) h22 ?_
          refine .exit ?_
          exact⟨(z52,s43,s44,s45,z53,z54,z56,z57,z58,s47,z59,s48,z60,s49,q7,z61,s50),hm,(.k [5] [false,false] [.tmp 5 false,.tmp 10 false,.tmp 11 false,.tmp 15 false,.tmp 18 false] [1,5,6,7,10,11,13,15,16,18,78] ⟨A7 h21,trivial⟩)⟩
      ·replace hm:=Ag hm;rcases hm with⟨h32,hm⟩ | ⟨h32,hm⟩
       ·refine .reg (eC 1 (some ((zB (nt (Bd x3 (0:Int)))),(hT 7 [(.cells Ay true false []),(oC [zI z28,zI z29,zI z30,Sl.v 1 s22]),(oC [zI z31,Sl.v 1 s23]),(oC [zI z32,Sl.v 1 s24]),oC q4,(oC [zI x2,Sl.v 1 s26])]))) (show _=some ((zB true),_) from (by rw[show (nt (Bd x3 (0:Int)))=true from h32])) (eE)) ?_
        exact⟨(z25,s19,s20,s21,(Int.ofNat k1),s27,z27,true,z28,z29,z30,s22,z31,s23,z32,s24,q4,x2,s26),hm,(.k [5] [false,false] [.tmp 5 false,.tmp 10 false,.tmp 11 false,.tmp 15 false,.tmp 18 false] [1,5,6,7,10,11,13,15,16,18,20,78,121] ⟨A7 h13,trivial⟩)⟩
       ·replace hm:=Ag hm;rcases hm with⟨h33,hm⟩ | ⟨h33,hm⟩
        ·refine .reg (eC 1 (some ((zB (nt (Bd x3 (0:Int)))),(hT 7 [(.cells Ay true false []),(oC [zI z28,zI z29,zI z30,Sl.v 1 s22]),(oC [zI z31,Sl.v 1 s23]),(oC [zI z32,Sl.v 1 s24]),oC q4,(oC [zI x2,Sl.v 1 s26])]))) (show _=some ((zB false),_) from (by rw[show (nt (Bd x3 (0:Int)))=false from h32])) (eC 2 (some ((zB (nt (Bd x4 (0:Int)))),(hT 7 [(.cells Ay true false []),(oC [zI z28,zI z29,zI z30,Sl.v 1 s22]),(oC [zI z31,Sl.v 1 s23]),(oC [zI z32,Sl.v 1 s24]),oC q4,(oC [zI x2,Sl.v 1 s26])]))) (show _=some ((zB true),_) from (by rw[show (nt (Bd x4 (0:Int)))=true from h33])) (eE))) ?_
         exact⟨(z25,s19,s20,s21,(Int.ofNat k1),s27,z27,true,z28,z29,z30,s22,z31,s23,z32,s24,q4,x2,s26),hm,(.k [5] [false,false] [.tmp 5 false,.tmp 10 false,.tmp 11 false,.tmp 15 false,.tmp 18 false] [1,5,6,7,10,11,13,15,16,18,20,78,121] ⟨A7 h13,trivial⟩)⟩
        ·replace hm:=Ag hm;rcases hm with⟨h34,hm⟩ | ⟨h34,hm⟩
         ·refine .reg (eC 1 (some ((zB (nt (Bd x3 (0:Int)))),(hT 7 [(.cells Ay true false []),(oC [zI z28,zI z29,zI z30,Sl.v 1 s22]),(oC [zI z31,Sl.v 1 s23]),(oC [zI z32,Sl.v 1 s24]),oC q4,(oC [zI x2,Sl.v 1 s26])]))) (show _=some ((zB false),_) from (by rw[show (nt (Bd x3 (0:Int)))=false from h32])) (eC 2 (some ((zB (nt (Bd x4 (0:Int)))),(hT 7 [(.cells Ay true false []),(oC [zI z28,zI z29,zI z30,Sl.v 1 s22]),(oC [zI z31,Sl.v 1 s23]),(oC [zI z32,Sl.v 1 s24]),oC q4,(oC [zI x2,Sl.v 1 s26])]))) (show _=some ((zB false),_) from (by rw[show (nt (Bd x4 (0:Int)))=false from h33])) (eC 4 (some ((zB (nt (Bd x2 (8:Int)))),(hT 7 [(.cells Ay true false []),(oC [zI z28,zI z29,zI z30,Sl.v 1 s22]),(oC [zI z31,Sl.v 1 s23]),(oC [zI z32,Sl.v 1 s24]),oC q4,(oC [zI x2,Sl.v 1 s26])]))) (show _=some ((zB true),_) from (by rw[show (nt (Bd x2 (8:Int)))=true from h34])) (eE)))) ?_
          exact⟨(z25,s19,s20,s21,(Int.ofNat k1),s27,z27,true,z28,z29,z30,s22,z31,s23,z32,s24,q4,x2,s26),hm,(.k [5] [false,false] [.tmp 5 false,.tmp 10 false,.tmp 11 false,.tmp 15 false,.tmp 18 false] [1,5,6,7,10,11,13,15,16,18,20,78,121] ⟨A7 h13,trivial⟩)⟩
         ·replace hm:=Ag hm;rcases hm with⟨h35,hm⟩ | ⟨h35,hm⟩
          ·refine .reg (eC 1 (some ((zB (nt (Bd x3 (0:Int)))),(hT 7 [(.cells Ay true false []),(oC [zI z28,zI z29,zI z30,Sl.v 1 s22]),(oC [zI z31,Sl.v 1 s23]),(oC [zI z32,Sl.v 1 s24]),oC q4,(oC [zI x2,Sl.v 1 s26])]))) (show _=some ((zB false),_) from (by rw[show (nt (Bd x3 (0:Int)))=false from h32])) (eC 2 (some ((zB (nt (Bd x4 (0:Int)))),(hT 7 [(.cells Ay true false []),(oC [zI z28,zI z29,zI z30,Sl.v 1 s22]),(oC [zI z31,Sl.v 1 s23]),(oC [zI z32,Sl.v 1 s24]),oC q4,(oC [zI x2,Sl.v 1 s26])]))) (show _=some ((zB false),_) from (by rw[show (nt (Bd x4 (0:Int)))=false from h33])) (eC 4 (some ((zB (nt (Bd x2 (8:Int)))),(hT 7 [(.cells Ay true false []),(oC [zI z28,zI z29,zI z30,Sl.v 1 s22]),(oC [zI z31,Sl.v 1 s23]),(oC [zI z32,Sl.v 1 s24]),oC q4,(oC [zI x2,Sl.v 1 s26])]))) (show _=some ((zB false),_) from (by rw[show (nt (Bd x2 (8:Int)))=false from h34])) (eC 4 (some ((zB (nt (Bd (Int.ofNat (Sl.n s27)) (9:Int)))),(hT 7 [(.cells Ay true false []),(oC [zI z28,zI z29,zI z30,Sl.v 1 s22]),(oC [zI z31,Sl.v 1 s23]),(oC [zI z32,Sl.v 1 s24]),oC q4,(oC [zI x2,Sl.v 1 s26])]))) (show _=some ((zB true),_) from (by rw[show (nt (Bd (Int.ofNat (Sl.n s27)) (9:Int)))=true from h35])) (eE))))) ?_
           exact⟨(z25,s19,s20,s21,(Int.ofNat k1),s27,z27,true,z28,z29,z30,s22,z31,s23,z32,s24,q4,x2,s26),hm,(.k [5] [false,false] [.tmp 5 false,.tmp 10 false,.tmp 11 false,.tmp 15 false,.tmp 18 false] [1,5,6,7,10,11,13,15,16,18,20,78,121] ⟨A7 h13,trivial⟩)⟩
          ·replace hm:=Ae hm;obtain⟨h36,hm⟩:=hm
           replace hm:=Gs hm;obtain⟨x7,h37,hm⟩:=hm
           refine .reg (eN 10 (Fr.puts (fr 212 [(1,(zY z25)),(5,(pt 2 0)),(6,Sl.v 1 s19),(7,Sl.v 1 s20),(10,(pt 3 0)),(11,(pt 4 0)),(13,Sl.v 1 s21),(15,(pt 5 0)),(16,(zI (Int.ofNat k1))),(18,(pt 6 0)),(19,zI x3),(20,Sl.v 1 s27),(21,zI x4),(78,zI z27)]) [(100,zI x3),(101,zB false),(102,zB false),(103,zI x4),(104,zB false),(105,zB false),(106,zB false),(107,(pt 6 0)),(108,zI x2),(109,zB false)]) (hT 7 [(.cells Ay true false []),(oC [zI z28,zI z29,zI z30,Sl.v 1 s22]),(oC [zI z31,Sl.v 1 s23]),(oC [zI z32,Sl.v 1 s24]),oC q4,(oC [zI x2,Sl.v 1 s26])]) (eC 1 (some ((zB (nt (Bd x3 (0:Int)))),(hT 7 [(.cells Ay true false []),(oC [zI z28,zI z29,zI z30,Sl.v 1 s22]),(oC [zI z31,Sl.v 1 s23]),(oC [zI z32,Sl.v 1 s24]),oC q4,(oC [zI x2,Sl.v 1 s26])]))) (show _=some ((zB false),_) from (by rw[show (nt (Bd x3 (0:Int)))=false from h32])) (eC 2 (some ((zB (nt (Bd x4 (0:Int)))),(hT 7 [(.cells Ay true false []),(oC [zI z28,zI z29,zI z30,Sl.v 1 s22]),(oC [zI z31,Sl.v 1 s23]),(oC [zI z32,Sl.v 1 s24]),oC q4,(oC [zI x2,Sl.v 1 s26])]))) (show _=some ((zB false),_) from (by rw[show (nt (Bd x4 (0:Int)))=false from h33])) (eC 4 (some ((zB (nt (Bd x2 (8:Int)))),(hT 7 [(.cells Ay true false []),(oC [zI z28,zI z29,zI z30,Sl.v 1 s22]),(oC [zI z31,Sl.v 1 s23]),(oC [zI z32,Sl.v 1 s24]),oC q4,(oC [zI x2,Sl.v 1 s26])]))) (show _=some ((zB false),_) from (by rw[show (nt (Bd x2 (8:Int)))=false from h34])) (by kernel_rfl)))) (eC 4 (some ((zB (nt (Bd (Int.ofNat (Sl.n s27)) (9:Int)))),(hT 7 [(.cells Ay true false []),(oC [zI z28,zI z29,zI z30,Sl.v 1 s22]),(oC [zI z31,Sl.v 1 s23]),(oC [zI z32,Sl.v 1 s24]),oC q4,(oC [zI x2,Sl.v 1 s26])]))) (show _=some ((zB false),_) from (by rw[show (nt (Bd (Int.ofNat (Sl.n s27)) (9:Int)))=false from h35])) (eC 3 (keep (hT 7 [(.cells Ay true false []),(oC [zI z28,zI z29,zI z30,Sl.v 1 s22]),(oC [zI z31,Sl.v 1 s23]),(oC [zI z32,Sl.v 1 s24]),oC q4,(oC [zI x2,Sl.v 1 s26])]) (bb (an (Nat.blt 4 (Sl.n s27)) true) (some (Cv (4*1) (Sl.cs s27))) none)) (AX h36) (eD (keep (hT 7 [(.cells Ay true false []),(oC [zI z28,zI z29,zI z30,Sl.v 1 s22]),(oC [zI z31,Sl.v 1 s23]),(oC [zI z32,Sl.v 1 s24]),oC q4,(oC [zI x2,Sl.v 1 s26])]) (AL (Sl.cs s27) (4*1))) (AZ h37) (eE))))) ?_
           exact⟨(z25,s19,s20,s21,(Int.ofNat k1),s27,z27,(nt (Bd x7 (0:Int))),z28,z29,z30,s22,z31,s23,z32,s24,q4,x2,s26),hm,(.k [5] [false,false] [.tmp 5 false,.tmp 10 false,.tmp 11 false,.tmp 15 false,.tmp 18 false] [1,5,6,7,10,11,13,15,16,18,20,78,121] ⟨A7 h13,trivial⟩)⟩
     ·refine .then (.rK (.ghs (fr 212 [(1,(zY z11)),(5,(pt 2 0)),(6,Sl.v 1 s7),(7,Sl.v 1 s8),(10,(pt 3 0)),(11,(pt 4 0)),(13,Sl.v 1 s9),(15,(pt 5 0)),(16,zI z12),(17,(pt 6 0)),(78,zI z12),(83,(zB (AY (3:Int) z12)))]) (hT 7 [(.cells Ay true false []),(oC [zI z13,zI z14,zI z15,Sl.v 1 s10]),(oC [zI z16,Sl.v 1 s11]),(oC [zI z17,Sl.v 1 s12]),oC q2,(oC [zI z16,Sl.v 1 s11])]) (.k [5] [false,false] [.tmp 5 false,.tmp 10 false,.tmp 11 false,.tmp 15 false,.tmp 17 false] [1,5,6,7,10,11,13,15,16,17,78,83] ⟨A7 h6,trivial⟩) ?_))
      replace hm:=Ag hm;rcases hm with⟨h38,hm⟩ | ⟨h38,hm⟩
      ·refine BB (AY (3:Int) z12) h38 ?_
       refine .rK ?_
       exact⟨(z11,s7,s8,s9,z12,z12,z13,z14,z15,s10,z16,s11,z17,s12,q2,z17,s12),hm,(.k [5] [false,false] [.tmp 5 false,.tmp 10 false,.tmp 11 false,.tmp 15 false,.tmp 17 false] [1,5,6,7,10,11,13,15,16,17,78] ⟨A7 h6,trivial⟩)⟩
      ·refine BI (AY (3:Int) z12) h38 ?_
       refine .skip ?_
       exact⟨(z11,s7,s8,s9,z12,z12,z13,z14,z15,s10,z16,s11,z17,s12,q2,z16,s11),hm,(.k [5] [false,false] [.tmp 5 false,.tmp 10 false,.tmp 11 false,.tmp 15 false,.tmp 17 false] [1,5,6,7,10,11,13,15,16,17,78] ⟨A7 h6,trivial⟩)⟩
   ·refine BI (AY z12 (8:Int)) h7 ?_
    refine .exit ?_
    exact⟨(z11,s8,z13,z14,z15,s10,z16,s11),hm,(.k0 [false,false] [.tmp 5 false,.tmp 10 false] [1,5,7,10])⟩
theorem AjF (pu:Af) (n:Nat) (z0:Int) (s0:Sl) (n0 c0:Nat) (z1 z2 z3:Int) (s1:Sl) (q0:LV) {v:Value} (hm:SQ pu n z0 s0 n0 c0 z1 z2 z3 s1 q0=some v):BN tt (Bb tabs isP pu (inl pu)) 2 XO (fr 212 [(1,(zY z0)),(5,(pt 2 0)),(6,Sl.v 1 s0),(7,sc 3 0 1 n0 c0)]) (hT 4 [(.cells Ay true false []),(oC [zI z1,zI z2,zI z3,Sl.v 1 s1]),oC q0]) (Fin tt 2 [.tmp 4] v):=by
 unfold SQ at hm
 refine .then (.rK ?_)
 replace hm:=Ae hm;obtain⟨h0,hm⟩:=hm
 refine .ghs (fr 212 [(1,(zY z0)),(5,(pt 2 0)),(6,Sl.v 1 s0),(7,sc 3 0 1 n0 c0),(10,(pt 4 0))]) (hT 5 [(.cells Ay true false []),(oC [zI z1,zI z2,zI z3,Sl.v 1 s1]),oC q0,(oC [(zI (8:Int)),Sl.v 1 s0])]) (.k [3] [false,false] [.tmp 5 false,.tmp 7 false,.tmp 10 false] [1,5,6,7,10] ⟨A7 h0,trivial⟩) ?_
 refine .then (.rK (.ghs (fr 212 [(1,(zY z0)),(5,(pt 2 0)),(6,Sl.v 1 s0),(7,sc 3 0 1 n0 c0),(10,(pt 4 0)),(11,(pt 5 0))]) (hT 6 [(.cells Ay true false []),(oC [zI z1,zI z2,zI z3,Sl.v 1 s1]),oC q0,(oC [(zI (8:Int)),Sl.v 1 s0]),(oC [(zI (8:Int)),(.slice none 0 0)])]) (.k [3] [false,false] [.tmp 5 false,.tmp 7 false,.tmp 10 false,.tmp 11 false] [1,5,6,7,10,11] ⟨A7 h0,trivial⟩) ?_))
 refine .join (v:=v) (fun y:Int×Sl×Nat×Nat×Int×Int×Int×Sl×LV×Int×Sl×Int×Nat×Nat×LV=>((fr 212 [(1,(zY y.1)),(5,(pt 2 0)),(6,(Sl.v 1 y.2.1)),(7,(sc 3 0 1 y.2.2.1 y.2.2.2.1)),(10,(pt 4 0)),(11,(pt 5 0))]),(hT 7 [(.cells Ay true false []),(oC [(zI y.2.2.2.2.1),(zI y.2.2.2.2.2.1),(zI y.2.2.2.2.2.2.1),(Sl.v 1 y.2.2.2.2.2.2.2.1)]),(oC y.2.2.2.2.2.2.2.2.1),(oC [(zI y.2.2.2.2.2.2.2.2.2.1),(Sl.v 1 y.2.2.2.2.2.2.2.2.2.2.1)]),(oC [(zI y.2.2.2.2.2.2.2.2.2.2.2.1),(sc 6 0 1 y.2.2.2.2.2.2.2.2.2.2.2.2.1 y.2.2.2.2.2.2.2.2.2.2.2.2.2.1)]),(oC y.2.2.2.2.2.2.2.2.2.2.2.2.2.2)]))) (fun y=>SK pu n y.1 y.2.1 y.2.2.1 y.2.2.2.1 y.2.2.2.2.1 y.2.2.2.2.2.1 y.2.2.2.2.2.2.1 y.2.2.2.2.2.2.2.1 y.2.2.2.2.2.2.2.2.1 y.2.2.2.2.2.2.2.2.2.1 y.2.2.2.2.2.2.2.2.2.2.1 y.2.2.2.2.2.2.2.2.2.2.2.1 y.2.2.2.2.2.2.2.2.2.2.2.2.1 y.2.2.2.2.2.2.2.2.2.2.2.2.2.1 y.2.2.2.2.2.2.2.2.2.2.2.2.2.2) ?_ ?_
 ·rintro⟨z4,s2,n1,c1,z5,z6,z7,s3,q1,z8,s4,z9,n2,c2,q2⟩ hm
  exact AjE pu n z4 s2 n1 c1 z5 z6 z7 s3 q1 z8 s4 z9 n2 c2 q2 hm
 ·refine .then (.rK (.ghs (fr 212 [(1,(zY z0)),(5,(pt 2 0)),(6,Sl.v 1 s0),(7,sc 3 0 1 n0 c0),(10,(pt 4 0)),(11,(pt 5 0)),(54,(zI (0:Int)))]) (hT 6 [(.cells Ay true false []),(oC [zI z1,zI z2,zI z3,Sl.v 1 s1]),oC q0,(oC [(zI (8:Int)),Sl.v 1 s0]),(oC [(zI (8:Int)),(.slice none 0 0)])]) (.k [3] [false,false] [.tmp 5 false,.tmp 7 false,.tmp 10 false,.tmp 11 false] [1,5,6,7,10,11,54] ⟨A7 h0,trivial⟩) ?_))
  refine .block (.loopM (v:=v) (fun y:Int×Sl×Nat×Nat×Int×Int×Int×Int×Sl×LV×Int×Sl×Int×Nat×Nat×LV=>((fr 212 [(1,(zY y.1)),(5,(pt 2 0)),(6,(Sl.v 1 y.2.1)),(7,(sc 3 0 1 y.2.2.1 y.2.2.2.1)),(10,(pt 4 0)),(11,(pt 5 0)),(54,(zI y.2.2.2.2.1))]),(hT 7 [(.cells Ay true false []),(oC [(zI y.2.2.2.2.2.1),(zI y.2.2.2.2.2.2.1),(zI y.2.2.2.2.2.2.2.1),(Sl.v 1 y.2.2.2.2.2.2.2.2.1)]),(oC y.2.2.2.2.2.2.2.2.2.1),(oC [(zI y.2.2.2.2.2.2.2.2.2.2.1),(Sl.v 1 y.2.2.2.2.2.2.2.2.2.2.2.1)]),(oC [(zI y.2.2.2.2.2.2.2.2.2.2.2.2.1),(sc 6 0 1 y.2.2.2.2.2.2.2.2.2.2.2.2.2.1 y.2.2.2.2.2.2.2.2.2.2.2.2.2.2.1)]),(oC y.2.2.2.2.2.2.2.2.2.2.2.2.2.2.2)]))) (fun w y=>KZ pu n w y.1 y.2.1 y.2.2.1 y.2.2.2.1 y.2.2.2.2.1 y.2.2.2.2.2.1 y.2.2.2.2.2.2.1 y.2.2.2.2.2.2.2.1 y.2.2.2.2.2.2.2.2.1 y.2.2.2.2.2.2.2.2.2.1 y.2.2.2.2.2.2.2.2.2.2.1 y.2.2.2.2.2.2.2.2.2.2.2.1 y.2.2.2.2.2.2.2.2.2.2.2.2.1 y.2.2.2.2.2.2.2.2.2.2.2.2.2.1 y.2.2.2.2.2.2.2.2.2.2.2.2.2.2.1 y.2.2.2.2.2.2.2.2.2.2.2.2.2.2.2) n ⟨(z0,s0,n0,c0,(0:Int),z1,z2,z3,s1,q0,(8:Int),s0,(8:Int),0,0,([]:LV)),hm,(.thawC 5 1 1 [(zI (8:Int)),(.slice none 0 0)] (imm:=false) (spent:=false) (anc:=[]) (by kernel_rfl) (by kernel_rfl) (by kernel_rfl) (by kernel_rfl) (.k [3] [false,false] [.tmp 5 false,.tmp 7 false,.tmp 10 false,.tmp 11 true,.cell 5 1 false] [1,5,6,7,10,11,54] ⟨A7 h0,trivial⟩))⟩ (fun _=>rfl) ?_)
  rintro w0 ⟨z10,s5,n3,c3,z11,z12,z13,z14,s6,q3,z15,s7,z16,n4,c5,q4⟩ hm
  replace hm:OQ pu n (KZ pu n w0) z10 s5 n3 c3 z11 z12 z13 z14 s6 q3 z15 s7 z16 n4 c5 q4=some v:=hm
  unfold OQ at hm
  refine .then (.rK ?_)
  replace hm:=Ae hm;obtain⟨h1,hm⟩:=hm
  replace hm:=Ae hm;obtain⟨h2,hm⟩:=hm
  refine .ghs (fr 212 [(1,(zY z10)),(5,(pt 2 0)),(6,Sl.v 1 s5),(7,sc 3 0 1 n3 c3),(10,(pt 4 0)),(11,(pt 5 0)),(54,zI z11),(55,(zB (AY z11 (8:Int))))]) (hT 7 [(.cells Ay true false []),(oC [zI z12,zI z13,zI z14,Sl.v 1 s6]),oC q3,(oC [zI z15,Sl.v 1 s7]),(oC [zI z16,sc 6 0 1 n4 c5]),oC q4]) (.k [3,6] [false,false] [.tmp 5 false,.tmp 7 false,.tmp 10 false,.tmp 11 true,.cell 5 1 false] [1,5,6,7,10,11,54,55] ⟨A7 h1,A7 h2,trivial⟩) ?_
  refine .then ?_
  replace hm:=Ag hm;rcases hm with⟨h3,hm⟩ | ⟨h3,hm⟩
  ·refine BB (AY z11 (8:Int)) h3 ?_
   refine .skip (.ghs (fr 212 [(1,(zY z10)),(5,(pt 2 0)),(6,Sl.v 1 s5),(7,sc 3 0 1 n3 c3),(10,(pt 4 0)),(11,(pt 5 0)),(54,zI z11)]) (hT 7 [(.cells Ay true false []),(oC [zI z12,zI z13,zI z14,Sl.v 1 s6]),oC q3,(oC [zI z15,Sl.v 1 s7]),(oC [zI z16,sc 6 0 1 n4 c5]),oC q4]) (.k [3,6] [false,false] [.tmp 5 false,.tmp 7 false,.tmp 10 false,.tmp 11 true,.cell 5 1 false] [1,5,6,7,10,11,54] ⟨A7 h1,A7 h2,trivial⟩) ?_)
   refine .join (v:=v) (fun y:Int×Sl×Nat×Nat×Int×Int×Int×Int×Sl×LV×Int×Sl×Int×Nat×Nat×LV=>((fr 212 [(1,(zY y.1)),(5,(pt 2 0)),(6,(Sl.v 1 y.2.1)),(7,(sc 3 0 1 y.2.2.1 y.2.2.2.1)),(10,(pt 4 0)),(11,(pt 5 0)),(54,(zI y.2.2.2.2.1))]),(hT 7 [(.cells Ay true false []),(oC [(zI y.2.2.2.2.2.1),(zI y.2.2.2.2.2.2.1),(zI y.2.2.2.2.2.2.2.1),(Sl.v 1 y.2.2.2.2.2.2.2.2.1)]),(oC y.2.2.2.2.2.2.2.2.2.1),(oC [(zI y.2.2.2.2.2.2.2.2.2.2.1),(Sl.v 1 y.2.2.2.2.2.2.2.2.2.2.2.1)]),(oC [(zI y.2.2.2.2.2.2.2.2.2.2.2.2.1),(sc 6 0 1 y.2.2.2.2.2.2.2.2.2.2.2.2.2.1 y.2.2.2.2.2.2.2.2.2.2.2.2.2.2.1)]),(oC y.2.2.2.2.2.2.2.2.2.2.2.2.2.2.2)]))) (fun y=>Sg pu n (KZ pu n w0) y.1 y.2.1 y.2.2.1 y.2.2.2.1 y.2.2.2.2.1 y.2.2.2.2.2.1 y.2.2.2.2.2.2.1 y.2.2.2.2.2.2.2.1 y.2.2.2.2.2.2.2.2.1 y.2.2.2.2.2.2.2.2.2.1 y.2.2.2.2.2.2.2.2.2.2.1 y.2.2.2.2.2.2.2.2.2.2.2.1 y.2.2.2.2.2.2.2.2.2.2.2.2.1 y.2.2.2.2.2.2.2.2.2.2.2.2.2.1 y.2.2.2.2.2.2.2.2.2.2.2.2.2.2.1 y.2.2.2.2.2.2.2.2.2.2.2.2.2.2.2) ?_ ?_
   ·rintro⟨z17,s8,n5,c6,z18,z19,z20,z21,s9,q5,z22,s10,z23,n6,c7,q6⟩ hm
    unfold Sg at hm
    refine .rK ?_
    replace hm:=Ae hm;obtain⟨h4,hm⟩:=hm
    replace hm:=Ae hm;obtain⟨h5,hm⟩:=hm
    exact⟨(z17,s8,n5,c6,(Aj .i64 (Int.add z18 (1:Int))),z19,z20,z21,s9,q5,z22,s10,z23,n6,c7,q6),hm,(.k [3,6] [false,false] [.tmp 5 false,.tmp 7 false,.tmp 10 false,.tmp 11 true,.cell 5 1 false] [1,5,6,7,10,11,54] ⟨A7 h4,A7 h5,trivial⟩)⟩
   ·refine .block (.then (.rK (.ghs (fr 212 [(1,(zY z10)),(5,(pt 2 0)),(6,Sl.v 1 s5),(7,sc 3 0 1 n3 c3),(10,(pt 4 0)),(11,(pt 5 0)),(12,zI z11),(54,zI z11)]) (hT 7 [(.cells Ay true false []),(oC [zI z12,zI z13,zI z14,Sl.v 1 s6]),oC q3,(oC [zI z15,Sl.v 1 s7]),(oC [zI z16,sc 6 0 1 n4 c5]),oC q4]) (.k [3,6] [false,false] [.tmp 5 false,.tmp 7 false,.tmp 10 false,.tmp 11 true,.cell 5 1 false] [1,5,6,7,10,11,12,54] ⟨A7 h1,A7 h2,trivial⟩) ?_)))
    refine .then ?_
    replace hm:=Yn hm;obtain⟨b0,h6,hm⟩:=hm
    refine .reg (eC 4 ((oo (pu 18 [Sl.v 1 s5,(zI (Int.tmod (Aj .i64 (Int.sub (8:Int) z11)) (8:Int)))]) none fun v=>some (v,(hT 7 [(.cells Ay true false []),(oC [zI z12,zI z13,zI z14,Sl.v 1 s6]),oC q3,(oC [zI z15,Sl.v 1 s7]),(oC [zI z16,sc 6 0 1 n4 c5]),oC q4])))) (AB h6) (eE)) ?_
    refine .ghs (fr 212 [(1,(zY z10)),(5,(pt 2 0)),(6,Sl.v 1 s5),(7,sc 3 0 1 n3 c3),(10,(pt 4 0)),(11,(pt 5 0)),(12,zI z11),(54,zI z11),(61,zB b0)]) (hT 7 [(.cells Ay true false []),(oC [zI z12,zI z13,zI z14,Sl.v 1 s6]),oC q3,(oC [zI z15,Sl.v 1 s7]),(oC [zI z16,sc 6 0 1 n4 c5]),oC q4]) (.k [3,6] [false,false] [.tmp 5 false,.tmp 7 false,.tmp 10 false,.tmp 11 true,.cell 5 1 false] [1,5,6,7,10,11,12,54,61] ⟨A7 h1,A7 h2,trivial⟩) ?_
    replace hm:=Ag hm;rcases hm with⟨h7,hm⟩ | ⟨h7,hm⟩
    ·refine .ifT b0 (by kernel_rfl) h7 ?_
     replace hm:=Ae hm;obtain⟨h8,hm⟩:=hm
     refine .reg (eC 4 (Oc 1 8 n4 c5 1 6 q4 [zI z11] [] (hT 8 [(.cells Ay true false []),(oC [zI z12,zI z13,zI z14,Sl.v 1 s6]),oC q3,(oC [zI z15,Sl.v 1 s7]),(oC [zI z16,sc 6 0 1 n4 c5]),oC q4,(oC [zI z11])])) (I1 h8) (eE)) ?_
     replace hm:=Ae hm;obtain⟨h9,hm⟩:=hm
     exact⟨(z10,s5,n3,c3,z11,z12,z13,z14,s6,q3,z15,s7,z16,(n4+1),(d2 (n4+1)),(Br (Am 0 q4) [zI z11])),hm,(.k [3,8] [false,false] [.tmp 5 false,.tmp 7 false,.tmp 10 false,.tmp 11 true,.cell 5 1 false] [1,5,6,7,10,11,54] ⟨A7 h1,A7 h9,trivial⟩)⟩
    ·refine .ifF b0 (by kernel_rfl) h7 ?_
     refine .skip ?_
     exact⟨(z10,s5,n3,c3,z11,z12,z13,z14,s6,q3,z15,s7,z16,n4,c5,q4),hm,(.k [3,6] [false,false] [.tmp 5 false,.tmp 7 false,.tmp 10 false,.tmp 11 true,.cell 5 1 false] [1,5,6,7,10,11,54] ⟨A7 h1,A7 h2,trivial⟩)⟩
  ·refine BI (AY z11 (8:Int)) h3 ?_
   refine .exit ?_
   exact⟨(z10,s5,n3,c3,z12,z13,z14,s6,q3,z15,s7,z16,n4,c5,q4),hm,(.k [3,6] [false,false] [.tmp 5 false,.tmp 7 false,.tmp 10 false,.tmp 11 true,.cell 5 1 false] [1,5,6,7,10,11] ⟨A7 h1,A7 h2,trivial⟩)⟩
theorem r4 {call:A8} (pu:Af) (n:Nat) (hcall:call=Bb tabs isP pu (inl pu)) {args:LV} {v:Value} (hm:m4 pu n args=some v) (_:∀ x∈args,closed2 x=true):args.length≤212∧BN tt call 2 Pj (Fr.made 212 args) (Ao tabs) (Fin tt 2 [.tmp 4] v):=by
 subst hcall
 unfold m4 at hm
 replace hm:=Ad hm;obtain⟨a0,args_0,rfl,hm⟩:=hm
 replace hm:=Ad hm;obtain⟨a1,args_1,rfl,hm⟩:=hm
 replace hm:=AC hm;obtain⟨rfl,hm⟩:=hm
 replace hm:=Ai hm;obtain⟨x1,rfl,hm⟩:=hm
 replace hm:=Ai hm;obtain⟨x3,rfl,hm⟩:=hm
 unfold m4_ at hm
 refine⟨by simp,?_⟩
 refine .same (F':=(fr 212 [(0,(zY x1)),(1,(zY x3))])) (H':=(hT 2 [(.cells Ay true false [])])) (by kernel_rfl) (by kernel_rfl) ?_
 refine .then (.rK (.ghs (fr 212 [(0,(zY x1)),(1,(zY x3))]) (hT 2 [(.cells Ay true false [])]) (.k0 [false,false] [] [0,1]) ?_))
 refine .then ?_
 replace hm:=Ab hm;obtain⟨v17,h18,hm⟩:=hm
 replace hm:=Ch hm;obtain⟨l19,rfl,hm⟩:=hm
 replace hm:=Ad hm;obtain⟨v21,l19_0,rfl,hm⟩:=hm
 replace hm:=AC hm;obtain⟨rfl,hm⟩:=hm
 replace hm:=Al hm;obtain⟨s22,rfl,hm⟩:=hm
 refine .reg (eC 1 (HV tabs [[some 1]] 1 [] [] (pu 10150) [sc 2 0 1 8 17] (hT 3 [(.cells Ay true false []),(oC [(zI (0:Int)),(zI (1:Int)),(zI (2:Int)),(zI (3:Int)),(zI (4:Int)),(zI (5:Int)),(zI (6:Int)),(zI (7:Int))])])) (Jw (as:=[(Sl.v 1 (Sl.mk 8 0 (Aq (8*1) (Am 0 ([(zI (0:Int)),(zI (1:Int)),(zI (2:Int)),(zI (3:Int)),(zI (4:Int)),(zI (5:Int)),(zI (6:Int)),(zI (7:Int))]:LV)))))]) (H1:=(hT 3 [(.cells Ay true false []),.dead])) (Kg (sD (eO (show ER 1 (sc 2 0 1 8 17) (hT 3 [(.cells Ay true false []),(oC [(zI (0:Int)),(zI (1:Int)),(zI (2:Int)),(zI (3:Int)),(zI (4:Int)),(zI (5:Int)),(zI (6:Int)),(zI (7:Int))])])=some ((Sl.v 1 (Sl.mk 8 0 (Aq (8*1) (Am 0 ([(zI (0:Int)),(zI (1:Int)),(zI (2:Int)),(zI (3:Int)),(zI (4:Int)),(zI (5:Int)),(zI (6:Int)),(zI (7:Int))]:LV))))),(hT 3 [(.cells Ay true false []),.dead])) from KH 2 0 1 8 17 ([(zI (0:Int)),(zI (1:Int)),(zI (2:Int)),(zI (3:Int)),(zI (4:Int)),(zI (5:Int)),(zI (6:Int)),(zI (7:Int))]:LV) [] (by kernel_rfl) (by kernel_rfl) (by kernel_rfl)))) MG) (Jv (H2:=(hT 3 [(.cells Ay true false []),.dead])) (v:=(Sl.v 1 s22)) (v':=(Sl.v 1 s22)) [some 0,some 1] [] [] [(Sl.v 1 (Sl.mk 8 0 (Aq (8*1) (Am 0 ([(zI (0:Int)),(zI (1:Int)),(zI (2:Int)),(zI (3:Int)),(zI (4:Int)),(zI (5:Int)),(zI (6:Int)),(zI (7:Int))]:LV)))))] [] [] [some 0,some 1,none] [] [] (by kernel_rfl) Fb (Eq.trans (by kernel_rfl) h18) Fb Fb)) (eE)) ?_
 refine .ghs (fr 212 [(0,(zY x1)),(1,(zY x3)),(5,(pt 2 0))]) (hT 3 [(.cells Ay true false []),(oC [(zI (3:Int)),(zI (3:Int)),(zI (2:Int)),Sl.v 1 s22])]) (.k0 [false,false] [.tmp 5 false] [0,1,5]) ?_
 refine .then ?_
 replace hm:=Sa hm;obtain⟨s30,h29,hm⟩:=hm
 refine .reg (eC 2 ((oo (pu 16 [(.int .u32 (Aj .u32 x1)),(zI (8:Int))]) none fun v=>some (v,(hT 3 [(.cells Ay true false []),(oC [(zI (3:Int)),(zI (3:Int)),(zI (2:Int)),Sl.v 1 s22])])))) (AB h29) (eE)) ?_
 refine .ghs (fr 212 [(1,(zY x3)),(5,(pt 2 0)),(6,Sl.v 1 s30)]) (hT 3 [(.cells Ay true false []),(oC [(zI (3:Int)),(zI (3:Int)),(zI (2:Int)),Sl.v 1 s22])]) (.k0 [false,false] [.tmp 5 false] [1,5,6]) ?_
 refine .then (.rK (.ghs (fr 212 [(1,(zY x3)),(5,(pt 2 0)),(6,Sl.v 1 s30),(7,sc 3 0 1 9 19)]) (hT 4 [(.cells Ay true false []),(oC [(zI (3:Int)),(zI (3:Int)),(zI (2:Int)),Sl.v 1 s22]),(oC [(zI (0:Int)),(zI (0:Int)),(zI (0:Int)),(zI (0:Int)),(zI (0:Int)),(zI (0:Int)),(zI (0:Int)),(zI (0:Int)),(zI (0:Int))])]) (.k0 [false,false] [.tmp 5 false,.tmp 7 false] [1,5,6,7]) ?_))
 refine .join (v:=v) (fun y:Int×Sl×Nat×Nat×Int×Int×Int×Sl×LV=>((fr 212 [(1,(zY y.1)),(5,(pt 2 0)),(6,(Sl.v 1 y.2.1)),(7,(sc 3 0 1 y.2.2.1 y.2.2.2.1))]),(hT 4 [(.cells Ay true false []),(oC [(zI y.2.2.2.2.1),(zI y.2.2.2.2.2.1),(zI y.2.2.2.2.2.2.1),(Sl.v 1 y.2.2.2.2.2.2.2.1)]),(oC y.2.2.2.2.2.2.2.2)]))) (fun y=>SQ pu n y.1 y.2.1 y.2.2.1 y.2.2.2.1 y.2.2.2.2.1 y.2.2.2.2.2.1 y.2.2.2.2.2.2.1 y.2.2.2.2.2.2.2.1 y.2.2.2.2.2.2.2.2) ?_ ?_
 ·rintro⟨z0,s0,n0,c0,z1,z2,z3,s1,q0⟩ hm
  exact AjF pu n z0 s0 n0 c0 z1 z2 z3 s1 q0 hm
 ·refine .then (.rK (.ghs (fr 212 [(1,(zY x3)),(5,(pt 2 0)),(6,Sl.v 1 s30),(7,sc 3 0 1 9 19),(38,Sl.v 1 s30),(39,(zI (Int.ofNat (Sl.n s30)))),(40,(zI (0:Int)))]) (hT 4 [(.cells Ay true false []),(oC [(zI (3:Int)),(zI (3:Int)),(zI (2:Int)),Sl.v 1 s22]),(oC [(zI (0:Int)),(zI (0:Int)),(zI (0:Int)),(zI (0:Int)),(zI (0:Int)),(zI (0:Int)),(zI (0:Int)),(zI (0:Int)),(zI (0:Int))])]) (.k0 [false,false] [.tmp 5 false,.tmp 7 false] [1,5,6,7,38,39,40]) ?_))
  refine .block (.loopM (v:=v) (fun y:Int×Sl×Nat×Nat×Sl×Int×Int×Int×Int×Int×Sl×LV=>((fr 212 [(1,(zY y.1)),(5,(pt 2 0)),(6,(Sl.v 1 y.2.1)),(7,(sc 3 0 1 y.2.2.1 y.2.2.2.1)),(38,(Sl.v 1 y.2.2.2.2.1)),(39,(zI y.2.2.2.2.2.1)),(40,(zI y.2.2.2.2.2.2.1))]),(hT 4 [(.cells Ay true false []),(oC [(zI y.2.2.2.2.2.2.2.1),(zI y.2.2.2.2.2.2.2.2.1),(zI y.2.2.2.2.2.2.2.2.2.1),(Sl.v 1 y.2.2.2.2.2.2.2.2.2.2.1)]),(oC y.2.2.2.2.2.2.2.2.2.2.2)]))) (fun w y=>MU pu n w y.1 y.2.1 y.2.2.1 y.2.2.2.1 y.2.2.2.2.1 y.2.2.2.2.2.1 y.2.2.2.2.2.2.1 y.2.2.2.2.2.2.2.1 y.2.2.2.2.2.2.2.2.1 y.2.2.2.2.2.2.2.2.2.1 y.2.2.2.2.2.2.2.2.2.2.1 y.2.2.2.2.2.2.2.2.2.2.2) n ⟨(x3,s30,9,19,s30,(Int.ofNat (Sl.n s30)),(0:Int),(3:Int),(3:Int),(2:Int),s22,([(zI (0:Int)),(zI (0:Int)),(zI (0:Int)),(zI (0:Int)),(zI (0:Int)),(zI (0:Int)),(zI (0:Int)),(zI (0:Int)),(zI (0:Int))]:LV)),hm,(.k0 [false,false] [.tmp 5 false,.tmp 7 false] [1,5,6,7,38,39,40])⟩ (fun _=>rfl) ?_)
  rintro w0 ⟨z4,s2,n1,c1,s3,z5,z6,z7,z8,z9,s4,q1⟩ hm
  replace hm:OT pu n (MU pu n w0) z4 s2 n1 c1 s3 z5 z6 z7 z8 z9 s4 q1=some v:=hm
  unfold OT at hm
  refine .then (.rK ?_)
  replace hm:=Ae hm;obtain⟨h0,hm⟩:=hm
  refine .ghs (fr 212 [(1,(zY z4)),(5,(pt 2 0)),(6,Sl.v 1 s2),(7,sc 3 0 1 n1 c1),(38,Sl.v 1 s3),(39,zI z5),(40,zI z6),(41,(zB (AY z6 z5)))]) (hT 4 [(.cells Ay true false []),(oC [zI z7,zI z8,zI z9,Sl.v 1 s4]),oC q1]) (.k [3] [false,false] [.tmp 5 false,.tmp 7 false] [1,5,6,7,38,39,40,41] ⟨A7 h0,trivial⟩) ?_
  refine .then ?_
  replace hm:=Ag hm;rcases hm with⟨h1,hm⟩ | ⟨h1,hm⟩
  ·refine BB (AY z6 z5) h1 ?_
   refine .skip (.ghs (fr 212 [(1,(zY z4)),(5,(pt 2 0)),(6,Sl.v 1 s2),(7,sc 3 0 1 n1 c1),(38,Sl.v 1 s3),(39,zI z5),(40,zI z6)]) (hT 4 [(.cells Ay true false []),(oC [zI z7,zI z8,zI z9,Sl.v 1 s4]),oC q1]) (.k [3] [false,false] [.tmp 5 false,.tmp 7 false] [1,5,6,7,38,39,40] ⟨A7 h0,trivial⟩) ?_)
   refine .then (.block (.then ?_))
   replace hm:=Ab hm;obtain⟨k1,h2,hm⟩:=hm
   obtain rfl:=AR h2
   replace hm:=Ae hm;obtain⟨h3,hm⟩:=hm
   replace hm:=Gs hm;obtain⟨x0,h4,hm⟩:=hm
   refine .reg (eD (keep (hT 4 [(.cells Ay true false []),(oC [zI z7,zI z8,zI z9,Sl.v 1 s4]),oC q1]) (bb (an (Nat.blt k1 (Sl.n s3)) true) (some (Cv (k1*1) (Sl.cs s3))) none)) (AX h3) (eD (keep (hT 4 [(.cells Ay true false []),(oC [zI z7,zI z8,zI z9,Sl.v 1 s4]),oC q1]) (AL (Sl.cs s3) (k1*1))) (AZ h4) (eE))) ?_
   refine .ghs (fr 212 [(1,(zY z4)),(5,(pt 2 0)),(6,Sl.v 1 s2),(7,sc 3 0 1 n1 c1),(9,zI x0),(38,Sl.v 1 s3),(39,zI z5),(40,(zI (Int.ofNat k1)))]) (hT 4 [(.cells Ay true false []),(oC [zI z7,zI z8,zI z9,Sl.v 1 s4]),oC q1]) (.k [3] [false,false] [.tmp 5 false,.tmp 7 false] [1,5,6,7,9,38,39,40] ⟨A7 h0,trivial⟩) ?_
   replace hm:=Sa hm;obtain⟨s5,h5,hm⟩:=hm
   replace hm:=Ab hm;obtain⟨k2,h6,hm⟩:=hm
   obtain rfl:=AR h6
   replace hm:=Ae hm;obtain⟨h7,hm⟩:=hm
   replace hm:=Gs hm;obtain⟨x2,h8,hm⟩:=hm
   replace hm:=Ab hm;obtain⟨k3,h9,hm⟩:=hm
   obtain rfl:=AR h9
   replace hm:=Ae hm;obtain⟨h10,hm⟩:=hm
   replace hm:=Ae hm;obtain⟨h11,hm⟩:=hm
   refine .reg (eC 1 ((oo (pu 17 []) none fun v=>some (v,(hT 4 [(.cells Ay true false []),(oC [zI z7,zI z8,zI z9,Sl.v 1 s4]),oC q1])))) (AB h5) (eC 1 (keep (hT 4 [(.cells Ay true false []),(oC [zI z7,zI z8,zI z9,Sl.v 1 s4]),oC q1]) (bb (an (Nat.blt k2 (Sl.n s5)) true) (some (Cv (k2*1) (Sl.cs s5))) none)) (AX h7) (eD (keep (hT 4 [(.cells Ay true false []),(oC [zI z7,zI z8,zI z9,Sl.v 1 s4]),oC q1]) (AL (Sl.cs s5) (k2*1))) (AZ h8) (eD (keep (hT 4 [(.cells Ay true false []),(oC [zI z7,zI z8,zI z9,Sl.v 1 s4]),oC q1]) (bb (an (Nat.blt k3 n1) true) (some (.pointer (some ⟨3,(0+k3*1),none⟩))) none)) (AX h10) (eD (done (bb (an (Nat.ble ((0+k3*1)+1) (len q1)) true) (some (hT 4 [(.cells Ay true false []),(oC [zI z7,zI z8,zI z9,Sl.v 1 s4]),(oC (BM ([(zI (1:Int))]:LV) (0+k3*1) q1))])) none) undef) (Js h11) (eE)))))) ?_
   replace hm:=Ae hm;obtain⟨h12,hm⟩:=hm
   refine .ghs (fr 212 [(1,(zY z4)),(5,(pt 2 0)),(6,Sl.v 1 s2),(7,sc 3 0 1 n1 c1),(38,Sl.v 1 s3),(39,zI z5),(40,(zI (Int.ofNat k1)))]) (hT 4 [(.cells Ay true false []),(oC [zI z7,zI z8,zI z9,Sl.v 1 s4]),(oC (BM ([(zI (1:Int))]:LV) (0+k3*1) q1))]) (.k [3] [false,false] [.tmp 5 false,.tmp 7 false] [1,5,6,7,38,39,40] ⟨A7 h12,trivial⟩) ?_
   refine .rK ?_
   exact⟨(z4,s2,n1,c1,s3,z5,(Aj .i64 (Int.add (Int.ofNat k1) (1:Int))),z7,z8,z9,s4,(BM ([(zI (1:Int))]:LV) (0+k3*1) q1)),hm,(.k [3] [false,false] [.tmp 5 false,.tmp 7 false] [1,5,6,7,38,39,40] ⟨A7 h12,trivial⟩)⟩
  ·refine BI (AY z6 z5) h1 ?_
   refine .exit ?_
   exact⟨(z4,s2,n1,c1,z7,z8,z9,s4,q1),hm,(.k [3] [false,false] [.tmp 5 false,.tmp 7 false] [1,5,6,7] ⟨A7 h0,trivial⟩)⟩
end
end Go.TpEM
