/- Made from wip. -/
import Derived.Test.YtokbaaeimejjlaaDoorBkPMod1x

set_option maxRecDepth 100000
set_option maxHeartbeats 20000000
set_option linter.unusedVariables false
namespace Go.BkPM
open Go.Sp Go.BkP
noncomputable section
def m10_2 (pu:PureF) (n n0 c0:Nat) (q0:LV):OV:=
 (bb (allL closed1 q0) (bb (an (Nat.ble (0 + n0 * 1) (len q0)) (allL closed1 (takeL (n0 * 1) (dropL 0 q0)))) (some (Sl.v 1 (Sl.mk n0 0 (takeL (n0 * 1) (dropL 0 q0))))) none) none)
def m10_4 (pu:PureF) (n:Nat) (ih0:Int→Nat→Nat→Int→Int→LV→OV) (z0:Int) (n0 c0:Nat) (z1 z2:Int) (q0:LV):OV:=
 (bb (allL closed1 q0) (ih0 z0 n0 c0 z1 (wrapF .i64 (Int.add z2 (1:Int))) q0) none)
def b10_3 (pu:PureF) (n:Nat) (ih0:Int→Nat→Nat→Int→Int→LV→OV) (z0:Int) (n0 c0:Nat) (z1 z2:Int) (q0:LV):OV:=
 (bb (allL closed1 q0) (bb (ilt z2 z1) (bb (nt (ieq z0 (0:Int))) (bb (nt (ieq z0 (0:Int))) (bb (ilt (Int.tmod z2 z0) (wrapF .i64 (Int.sub (wrapF .i64 (Int.sub z0 (1:Int))) (Int.tmod z2 z0)))) (oo (toN (wrapF .i64 (Int.sub (wrapF .i64 (Int.sub (wrapF .i64 (Int.add (wrapF .i64 (Int.mul (wrapF .i64 (Int.tdiv z2 z0)) z0)) z0)) (1:Int))) (Int.tmod z2 z0)))) none fun k1=>(oo (toN (wrapF .i64 (Int.sub (wrapF .i64 (Int.sub (wrapF .i64 (Int.add (wrapF .i64 (Int.mul (wrapF .i64 (Int.tdiv z2 z0)) z0)) z0)) (1:Int))) (Int.tmod z2 z0)))) none fun k2=>(bb (an (Nat.blt k2 n0) true) (oo (nthL q0 (0 + k2 * 1)) none fun v0=>(oo (toI .i64 v0) none fun x0=>(oo (toN z2) none fun k3=>(bb (an (Nat.blt k3 n0) true) (oo (nthL q0 (0 + k3 * 1)) none fun v1=>(oo (toI .i64 v1) none fun x1=>(bb (an (Nat.blt k3 n0) true) (bb (an (Nat.ble ((0 + k3 * 1) + 1) (len q0)) true) (bb (an (Nat.blt k1 n0) true) (bb (an (Nat.ble ((0 + k1 * 1) + 1) (len (setL ([.int .i64 x0]:LV) (0 + k3 * 1) q0))) true) (bb (allL closed1 (setL ([.int .i64 x1]:LV) (0 + k1 * 1) (setL ([.int .i64 x0]:LV) (0 + k3 * 1) q0))) (m10_4 pu n ih0 z0 n0 c0 z1 (Int.ofNat k3) (setL ([.int .i64 x1]:LV) (0 + k1 * 1) (setL ([.int .i64 x0]:LV) (0 + k3 * 1) q0))) none) none) none) none) none))) none)))) none))) (m10_4 pu n ih0 z0 n0 c0 z1 z2 q0)) none) none) (m10_2 pu n n0 c0 q0)) none)
def l10_3 (pu:PureF) (n w:Nat):Int→Nat→Nat→Int→Int→LV→OV:=
 Nat.rec (motive:=fun _=>Int→Nat→Nat→Int→Int→LV→OV) (fun _ _ _ _ _ _=>none) (fun _ ih0=>b10_3 pu n ih0) w
def m10_1 (pu:PureF) (n:Nat) (z0:Int) (b0:Bool) (n0 c0:Nat) (q0:LV):OV:=
 (bb (allL closed1 q0) (bb b0 (l10_3 pu n n z0 n0 c0 (Int.ofNat n0) (0:Int) q0) (m10_2 pu n n0 c0 q0)) none)
def m10_6 (pu:PureF) (n:Nat) (ih0:Int→Int→Bool→Nat→Nat→Int→Int→LV→OV) (z0 z1:Int) (b0:Bool) (n0 c0:Nat) (z2 z3:Int) (q0:LV):OV:=
 (bb (allL closed1 q0) (ih0 z0 z1 b0 n0 c0 z2 (wrapF .i64 (Int.add z3 (1:Int))) q0) none)
def m10_7 (pu:PureF) (n:Nat) (ih0:Int→Int→Bool→Nat→Nat→Int→Int→LV→OV) (z0 z1:Int) (b0:Bool) (n0 c0:Nat) (z2 z3:Int) (q0:LV):OV:=
 (bb (allL closed1 q0) (m10_6 pu n ih0 z1 z0 b0 n0 c0 z2 z3 q0) none)
def m10_9 (pu:PureF) (n:Nat) (ih0:Int→Int→Bool→Nat→Nat→Int→Int→LV→OV) (ih1:Int→Int→Bool→Nat→Nat→Nat→Nat→Int→Int→Int→Int→LV→LV→OV) (z0 z1:Int) (b0:Bool) (n0 c0 n1 c1:Nat) (z2 z3 z4 z5:Int) (q0:LV) (q1:LV):OV:=
 (bb (allL closed1 q0) (bb (allL closed1 q1) (ih1 z0 z1 b0 n0 c0 n1 c1 z2 z3 z4 (wrapF .i64 (Int.add z5 (1:Int))) q0 q1) none) none)
def b10_10 (pu:PureF) (n:Nat) (ih0:Int→Int→Bool→Nat→Nat→Int→Int→LV→OV) (ih1:Int→Int→Bool→Nat→Nat→Nat→Nat→Int→Int→Int→Int→LV→LV→OV) (ih2:Int→Int→Bool→Nat→Nat→Nat→Nat→Int→Int→Int→Int→Int→Int→LV→LV→OV) (z0 z1:Int) (b0:Bool) (n0 c0 n1 c1:Nat) (z2 z3 z4 z5 z6 z7:Int) (q0:LV) (q1:LV):OV:=
 (bb (allL closed1 q0) (bb (allL closed1 q1) (bb (nt (ilt z3 (0:Int))) (oo (toN (wrapF .i64 (Int.add (wrapF .i64 (Int.mul z3 z1)) z2))) none fun k1=>(bb (an (Nat.blt k1 n0) true) (oo (nthL q0 (0 + k1 * 1)) none fun v0=>(oo (toI .i64 v0) none fun x0=>(bb (growC 1 8 n1 c1 1 q1) (bb (allL closed1 (appL (dropL 0 q1) [.int .i64 x0])) (ih2 z0 z1 b0 n0 c0 (n1 + 1) (2 * (n1 + 1) + bb false 1 0) z2 (wrapF .i64 (Int.sub z3 (1:Int))) z4 z5 z6 z7 q0 (appL (dropL 0 q1) [.int .i64 x0])) none) none))) none)) (m10_9 pu n ih0 ih1 z0 z1 b0 n0 c0 n1 c1 z4 z5 z6 z7 q0 q1)) none) none)
def l10_10 (pu:PureF) (n:Nat) (ih0:Int→Int→Bool→Nat→Nat→Int→Int→LV→OV) (ih1:Int→Int→Bool→Nat→Nat→Nat→Nat→Int→Int→Int→Int→LV→LV→OV) (w:Nat):Int→Int→Bool→Nat→Nat→Nat→Nat→Int→Int→Int→Int→Int→Int→LV→LV→OV:=
 Nat.rec (motive:=fun _=>Int→Int→Bool→Nat→Nat→Nat→Nat→Int→Int→Int→Int→Int→Int→LV→LV→OV) (fun _ _ _ _ _ _ _ _ _ _ _ _ _ _ _=>none) (fun _ ih2=>b10_10 pu n ih0 ih1 ih2) w
def b10_8 (pu:PureF) (n:Nat) (ih0:Int→Int→Bool→Nat→Nat→Int→Int→LV→OV) (ih1:Int→Int→Bool→Nat→Nat→Nat→Nat→Int→Int→Int→Int→LV→LV→OV) (z0 z1:Int) (b0:Bool) (n0 c0 n1 c1:Nat) (z2 z3 z4 z5:Int) (q0:LV) (q1:LV):OV:=
 (bb (allL closed1 q0) (bb (allL closed1 q1) (bb (ilt z5 z4) (l10_10 pu n ih0 ih1 n z0 z1 b0 n0 c0 n1 c1 z5 (wrapF .i64 (Int.sub z0 (1:Int))) z2 z3 z4 z5 q0 q1) (m10_7 pu n ih0 z0 z1 b0 n1 c1 z2 z3 q1)) none) none)
def l10_8 (pu:PureF) (n:Nat) (ih0:Int→Int→Bool→Nat→Nat→Int→Int→LV→OV) (w:Nat):Int→Int→Bool→Nat→Nat→Nat→Nat→Int→Int→Int→Int→LV→LV→OV:=
 Nat.rec (motive:=fun _=>Int→Int→Bool→Nat→Nat→Nat→Nat→Int→Int→Int→Int→LV→LV→OV) (fun _ _ _ _ _ _ _ _ _ _ _ _ _=>none) (fun _ ih1=>b10_8 pu n ih0 ih1) w
def b10_5 (pu:PureF) (n:Nat) (ih0:Int→Int→Bool→Nat→Nat→Int→Int→LV→OV) (z0 z1:Int) (b0:Bool) (n0 c0:Nat) (z2 z3:Int) (q0:LV):OV:=
 (bb (allL closed1 q0) (bb (ilt z3 z2) (l10_8 pu n ih0 n z0 z1 b0 n0 c0 0 0 z2 z3 z1 (0:Int) q0 ([]:LV)) (m10_1 pu n z1 b0 n0 c0 q0)) none)
def l10_5 (pu:PureF) (n w:Nat):Int→Int→Bool→Nat→Nat→Int→Int→LV→OV:=
 Nat.rec (motive:=fun _=>Int→Int→Bool→Nat→Nat→Int→Int→LV→OV) (fun _ _ _ _ _ _ _ _=>none) (fun _ ih0=>b10_5 pu n ih0) w
def m10_12 (pu:PureF) (n n0 c0:Nat) (q0:LV):OV:=
 (bb (allL closed1 q0) (bb (an (Nat.ble (0 + n0 * 1) (len q0)) (allL closed1 (takeL (n0 * 1) (dropL 0 q0)))) (some (Sl.v 1 (Sl.mk n0 0 (takeL (n0 * 1) (dropL 0 q0))))) none) none)
def m10_14 (pu:PureF) (n:Nat) (ih0:Int→Nat→Nat→Int→Int→LV→OV) (z0:Int) (n0 c0:Nat) (z1 z2:Int) (q0:LV):OV:=
 (bb (allL closed1 q0) (ih0 z0 n0 c0 z1 (wrapF .i64 (Int.add z2 (1:Int))) q0) none)
def b10_13 (pu:PureF) (n:Nat) (ih0:Int→Nat→Nat→Int→Int→LV→OV) (z0:Int) (n0 c0:Nat) (z1 z2:Int) (q0:LV):OV:=
 (bb (allL closed1 q0) (bb (ilt z2 z1) (bb (nt (ieq z0 (0:Int))) (bb (nt (ieq z0 (0:Int))) (bb (ilt (Int.tmod z2 z0) (wrapF .i64 (Int.sub (wrapF .i64 (Int.sub z0 (1:Int))) (Int.tmod z2 z0)))) (oo (toN (wrapF .i64 (Int.sub (wrapF .i64 (Int.sub (wrapF .i64 (Int.add (wrapF .i64 (Int.mul (wrapF .i64 (Int.tdiv z2 z0)) z0)) z0)) (1:Int))) (Int.tmod z2 z0)))) none fun k1=>(oo (toN (wrapF .i64 (Int.sub (wrapF .i64 (Int.sub (wrapF .i64 (Int.add (wrapF .i64 (Int.mul (wrapF .i64 (Int.tdiv z2 z0)) z0)) z0)) (1:Int))) (Int.tmod z2 z0)))) none fun k2=>(bb (an (Nat.blt k2 n0) true) (oo (nthL q0 (0 + k2 * 1)) none fun v0=>(oo (toI .i64 v0) none fun x0=>(oo (toN z2) none fun k3=>(bb (an (Nat.blt k3 n0) true) (oo (nthL q0 (0 + k3 * 1)) none fun v1=>(oo (toI .i64 v1) none fun x1=>(bb (an (Nat.blt k3 n0) true) (bb (an (Nat.ble ((0 + k3 * 1) + 1) (len q0)) true) (bb (an (Nat.blt k1 n0) true) (bb (an (Nat.ble ((0 + k1 * 1) + 1) (len (setL ([.int .i64 x0]:LV) (0 + k3 * 1) q0))) true) (bb (allL closed1 (setL ([.int .i64 x1]:LV) (0 + k1 * 1) (setL ([.int .i64 x0]:LV) (0 + k3 * 1) q0))) (m10_14 pu n ih0 z0 n0 c0 z1 (Int.ofNat k3) (setL ([.int .i64 x1]:LV) (0 + k1 * 1) (setL ([.int .i64 x0]:LV) (0 + k3 * 1) q0))) none) none) none) none) none))) none)))) none))) (m10_14 pu n ih0 z0 n0 c0 z1 z2 q0)) none) none) (m10_12 pu n n0 c0 q0)) none)
def l10_13 (pu:PureF) (n w:Nat):Int→Nat→Nat→Int→Int→LV→OV:=
 Nat.rec (motive:=fun _=>Int→Nat→Nat→Int→Int→LV→OV) (fun _ _ _ _ _ _=>none) (fun _ ih0=>b10_13 pu n ih0) w
def m10_11 (pu:PureF) (n:Nat) (z0:Int) (b0:Bool) (n0 c0:Nat) (q0:LV):OV:=
 (bb (allL closed1 q0) (bb b0 (l10_13 pu n n z0 n0 c0 (Int.ofNat n0) (0:Int) q0) (m10_12 pu n n0 c0 q0)) none)
def m10_16 (pu:PureF) (n:Nat) (ih0:Int→Int→Bool→Nat→Nat→Int→Int→LV→OV) (z0 z1:Int) (b0:Bool) (n0 c0:Nat) (z2 z3:Int) (q0:LV):OV:=
 (bb (allL closed1 q0) (ih0 z0 z1 b0 n0 c0 z2 (wrapF .i64 (Int.add z3 (1:Int))) q0) none)
def m10_17 (pu:PureF) (n:Nat) (ih0:Int→Int→Bool→Nat→Nat→Int→Int→LV→OV) (z0 z1:Int) (b0:Bool) (n0 c0:Nat) (z2 z3:Int) (q0:LV):OV:=
 (bb (allL closed1 q0) (m10_16 pu n ih0 z1 z0 b0 n0 c0 z2 z3 q0) none)
def m10_19 (pu:PureF) (n:Nat) (ih0:Int→Int→Bool→Nat→Nat→Int→Int→LV→OV) (ih1:Int→Int→Bool→Nat→Nat→Nat→Nat→Int→Int→Int→Int→LV→LV→OV) (z0 z1:Int) (b0:Bool) (n0 c0 n1 c1:Nat) (z2 z3 z4 z5:Int) (q0:LV) (q1:LV):OV:=
 (bb (allL closed1 q0) (bb (allL closed1 q1) (ih1 z0 z1 b0 n0 c0 n1 c1 z2 z3 z4 (wrapF .i64 (Int.add z5 (1:Int))) q0 q1) none) none)
def b10_20 (pu:PureF) (n:Nat) (ih0:Int→Int→Bool→Nat→Nat→Int→Int→LV→OV) (ih1:Int→Int→Bool→Nat→Nat→Nat→Nat→Int→Int→Int→Int→LV→LV→OV) (ih2:Int→Int→Bool→Nat→Nat→Nat→Nat→Int→Int→Int→Int→Int→Int→LV→LV→OV) (z0 z1:Int) (b0:Bool) (n0 c0 n1 c1:Nat) (z2 z3 z4 z5 z6 z7:Int) (q0:LV) (q1:LV):OV:=
 (bb (allL closed1 q0) (bb (allL closed1 q1) (bb (nt (ilt z3 (0:Int))) (oo (toN (wrapF .i64 (Int.add (wrapF .i64 (Int.mul z3 z1)) z2))) none fun k1=>(bb (an (Nat.blt k1 n0) true) (oo (nthL q0 (0 + k1 * 1)) none fun v0=>(oo (toI .i64 v0) none fun x0=>(bb (growC 1 8 n1 c1 1 q1) (bb (allL closed1 (appL (dropL 0 q1) [.int .i64 x0])) (ih2 z0 z1 b0 n0 c0 (n1 + 1) (2 * (n1 + 1) + bb false 1 0) z2 (wrapF .i64 (Int.sub z3 (1:Int))) z4 z5 z6 z7 q0 (appL (dropL 0 q1) [.int .i64 x0])) none) none))) none)) (m10_19 pu n ih0 ih1 z0 z1 b0 n0 c0 n1 c1 z4 z5 z6 z7 q0 q1)) none) none)
def l10_20 (pu:PureF) (n:Nat) (ih0:Int→Int→Bool→Nat→Nat→Int→Int→LV→OV) (ih1:Int→Int→Bool→Nat→Nat→Nat→Nat→Int→Int→Int→Int→LV→LV→OV) (w:Nat):Int→Int→Bool→Nat→Nat→Nat→Nat→Int→Int→Int→Int→Int→Int→LV→LV→OV:=
 Nat.rec (motive:=fun _=>Int→Int→Bool→Nat→Nat→Nat→Nat→Int→Int→Int→Int→Int→Int→LV→LV→OV) (fun _ _ _ _ _ _ _ _ _ _ _ _ _ _ _=>none) (fun _ ih2=>b10_20 pu n ih0 ih1 ih2) w
def b10_18 (pu:PureF) (n:Nat) (ih0:Int→Int→Bool→Nat→Nat→Int→Int→LV→OV) (ih1:Int→Int→Bool→Nat→Nat→Nat→Nat→Int→Int→Int→Int→LV→LV→OV) (z0 z1:Int) (b0:Bool) (n0 c0 n1 c1:Nat) (z2 z3 z4 z5:Int) (q0:LV) (q1:LV):OV:=
 (bb (allL closed1 q0) (bb (allL closed1 q1) (bb (ilt z5 z4) (l10_20 pu n ih0 ih1 n z0 z1 b0 n0 c0 n1 c1 z5 (wrapF .i64 (Int.sub z0 (1:Int))) z2 z3 z4 z5 q0 q1) (m10_17 pu n ih0 z0 z1 b0 n1 c1 z2 z3 q1)) none) none)
def l10_18 (pu:PureF) (n:Nat) (ih0:Int→Int→Bool→Nat→Nat→Int→Int→LV→OV) (w:Nat):Int→Int→Bool→Nat→Nat→Nat→Nat→Int→Int→Int→Int→LV→LV→OV:=
 Nat.rec (motive:=fun _=>Int→Int→Bool→Nat→Nat→Nat→Nat→Int→Int→Int→Int→LV→LV→OV) (fun _ _ _ _ _ _ _ _ _ _ _ _ _=>none) (fun _ ih1=>b10_18 pu n ih0 ih1) w
def b10_15 (pu:PureF) (n:Nat) (ih0:Int→Int→Bool→Nat→Nat→Int→Int→LV→OV) (z0 z1:Int) (b0:Bool) (n0 c0:Nat) (z2 z3:Int) (q0:LV):OV:=
 (bb (allL closed1 q0) (bb (ilt z3 z2) (l10_18 pu n ih0 n z0 z1 b0 n0 c0 0 0 z2 z3 z1 (0:Int) q0 ([]:LV)) (m10_11 pu n z1 b0 n0 c0 q0)) none)
def l10_15 (pu:PureF) (n w:Nat):Int→Int→Bool→Nat→Nat→Int→Int→LV→OV:=
 Nat.rec (motive:=fun _=>Int→Int→Bool→Nat→Nat→Int→Int→LV→OV) (fun _ _ _ _ _ _ _ _=>none) (fun _ ih0=>b10_15 pu n ih0) w
def m10_0 (pu:PureF) (n:Nat) (s0:Sl) (z0 z1 z2:Int) (b0:Bool):OV:=
 (bb (Nat.beq (Sl.n s0) 0) (l10_5 pu n n z0 z1 b0 0 1 z2 (0:Int) ([]:LV)) (bb (roomy (0 + (Sl.n s0)) 8) (bb (allL closed1 (takeL ((Sl.n s0) * 1) (Sl.cs s0))) (l10_15 pu n n z0 z1 b0 (0 + (Sl.n s0)) (2 * (0 + (Sl.n s0)) + bb false 1 0) z2 (0:Int) (takeL ((Sl.n s0) * 1) (Sl.cs s0))) none) none))
def m10_ (pu:PureF) (n:Nat) (s0:Sl) (x0 x1 x2:Int):OV:=
 (bb (ieq x2 (4:Int)) (m10_0 pu n s0 x0 x1 (0:Int) true) (bb (ieq x2 (5:Int)) (m10_0 pu n s0 x0 x1 (2:Int) true) (bb (ieq x2 (6:Int)) (m10_0 pu n s0 x0 x1 (1:Int) true) (bb (ieq x2 (7:Int)) (m10_0 pu n s0 x0 x1 (3:Int) true) (m10_0 pu n s0 x0 x1 x2 false)))))
def m10 (pu:PureF) (n:Nat) (args:LV):OV:=
 (ll args none fun a0 args=>(ll args none fun a1 args=>(ll args none fun a2 args=>(ll args none fun a3 args=>(ll args (oo (toSl 1 a0) none fun s0=>(oo (toI .i64 a1) none fun x0=>(oo (toI .i64 a2) none fun x1=>(oo (toI .i64 a3) none fun x2=>(m10_ pu n s0 x0 x1 x2))))) fun _ _=>none)))))
theorem w10_2 (pu:PureF) (n n0 c0:Nat) (q0:LV) {v:Value} (hm:m10_2 pu n n0 c0 q0 = some v):Run tt (callP tabs isP pu (inl pu)) 1 c10_89 (fr 103 [(11,sc 1 0 1 n0 c0)]) (hT 2 [oC q0]) (Fin tt 1 [.tmp 8] v):=by
 unfold m10_2 at hm
 refine .then (.rK ?_)
 replace hm:=bb_inv hm;obtain ⟨h0,hm⟩:=hm
 refine .ghs (fr 103 [(8,sc 1 0 1 n0 c0)]) (hT 2 [oC q0]) (.k [1] [false] [.tmp 8 false] [8] ⟨trF h0,trivial⟩) ?_
 replace hm:=bb_inv hm;obtain ⟨h1,hm⟩:=hm
 refine .ghs (Fr.puts (fr 103 [(8,sc 1 0 1 n0 c0)]) [(8,(Sl.v 1 (Sl.mk n0 0 (takeL (n0 * 1) (dropL 0 q0)))))]) (hT 2 [.dead]) (.freezeC 1 8 1 (an (Nat.ble (0 + n0 * 1) (len q0)) (allL closed1 (takeL (n0 * 1) (dropL 0 q0)))) (F1:=(Fr.puts (fr 103 [(8,sc 1 0 1 n0 c0)]) [(8,(Sl.v 1 (Sl.mk n0 0 (takeL (n0 * 1) (dropL 0 q0)))))])) (H1:=(hT 2 [.dead])) (by kernel_rfl) (by kernel_rfl) h1 (GhS.id _ _)) ?_
 refine .ret ?_
 exact fin_ret (Sl.v 1 (Sl.mk n0 0 (takeL (n0 * 1) (dropL 0 q0)))) (by kernel_rfl) (by kernel_rfl) hm
theorem w10_1 (pu:PureF) (n:Nat) (z0:Int) (b0:Bool) (n0 c0:Nat) (q0:LV) {v:Value} (hm:m10_1 pu n z0 b0 n0 c0 q0 = some v):Run tt (callP tabs isP pu (inl pu)) 1 c10_90 (fr 103 [(2,zI z0),(10,zB b0),(11,sc 1 0 1 n0 c0)]) (hT 2 [oC q0]) (Fin tt 1 [.tmp 8] v):=by
 unfold m10_1 at hm
 refine .join (v:=v) (fun y:Nat×Nat×LV=>((fr 103 [(11,(sc 1 0 1 y.1 y.2.1))]),(hT 2 [(oC y.2.2)]))) (fun y=>m10_2 pu n y.1 y.2.1 y.2.2) ?_ ?_
 ·rintro ⟨n1, c1, q1⟩ hm
  exact w10_2 pu n n1 c1 q1 hm
 ·refine .then (.rK ?_)
  replace hm:=bb_inv hm;obtain ⟨h0,hm⟩:=hm
  refine .ghs (fr 103 [(2,zI z0),(11,sc 1 0 1 n0 c0),(61,zB b0)]) (hT 2 [oC q0]) (.k [1] [false] [.tmp 11 false] [2,11,61] ⟨trF h0,trivial⟩) ?_
  replace hm:=bb_cases hm;rcases hm with ⟨h1,hm⟩ | ⟨h1,hm⟩
  ·refine .ifT b0 (by kernel_rfl) h1 ?_
   refine .then (.rK ?_)
   refine .ghs (fr 103 [(2,zI z0),(11,sc 1 0 1 n0 c0),(63,(zI (Int.ofNat n0))),(64,(zI (0:Int)))]) (hT 2 [oC q0]) (.k [1] [false] [.tmp 11 false] [2,11,63,64] ⟨trF h0,trivial⟩) ?_
   refine .block ?_
   refine .loopM (v:=v) (fun y:Int×Nat×Nat×Int×Int×LV=>((fr 103 [(2,(zI y.1)),(11,(sc 1 0 1 y.2.1 y.2.2.1)),(63,(zI y.2.2.2.1)),(64,(zI y.2.2.2.2.1))]),(hT 2 [(oC y.2.2.2.2.2)]))) (fun w y=>l10_3 pu n w y.1 y.2.1 y.2.2.1 y.2.2.2.1 y.2.2.2.2.1 y.2.2.2.2.2) n ⟨(z0,n0,c0,(Int.ofNat n0),(0:Int),q0),hm,(.k [1] [false] [.tmp 11 false] [2,11,63,64] ⟨trF h0,trivial⟩)⟩ (fun _=>rfl) ?_
   rintro w0 ⟨z1,n2,c2,z2,z3,q2⟩ hm
   replace hm:b10_3 pu n (l10_3 pu n w0) z1 n2 c2 z2 z3 q2 = some v:=hm
   unfold b10_3 at hm
   refine .then (.rK ?_)
   replace hm:=bb_inv hm;obtain ⟨h2,hm⟩:=hm
   refine .ghs (fr 103 [(2,zI z1),(11,sc 1 0 1 n2 c2),(63,zI z2),(64,zI z3),(65,(zB (ilt z3 z2)))]) (hT 2 [oC q2]) (.k [1] [false] [.tmp 11 false] [2,11,63,64,65] ⟨trF h2,trivial⟩) ?_
   refine .then ?_
   replace hm:=bb_cases hm;rcases hm with ⟨h3,hm⟩ | ⟨h3,hm⟩
   ·refine .ifT (ilt z3 z2) (by kernel_rfl) h3 ?_
    refine .skip ?_
    refine .ghs (fr 103 [(2,zI z1),(11,sc 1 0 1 n2 c2),(63,zI z2),(64,zI z3)]) (hT 2 [oC q2]) (.k [1] [false] [.tmp 11 false] [2,11,63,64] ⟨trF h2,trivial⟩) ?_
    refine .join (v:=v) (fun y:Int×Nat×Nat×Int×Int×LV=>((fr 103 [(2,(zI y.1)),(11,(sc 1 0 1 y.2.1 y.2.2.1)),(63,(zI y.2.2.2.1)),(64,(zI y.2.2.2.2.1))]),(hT 2 [(oC y.2.2.2.2.2)]))) (fun y=>m10_4 pu n (l10_3 pu n w0) y.1 y.2.1 y.2.2.1 y.2.2.2.1 y.2.2.2.2.1 y.2.2.2.2.2) ?_ ?_
    ·rintro ⟨z4, n3, c3, z5, z6, q3⟩ hm
     unfold m10_4 at hm
     refine .rK ?_
     replace hm:=bb_inv hm;obtain ⟨h4,hm⟩:=hm
     exact ⟨(z4,n3,c3,z5,(wrapF .i64 (Int.add z6 (1:Int))),q3),hm,(.k [1] [false] [.tmp 11 false] [2,11,63,64] ⟨trF h4,trivial⟩)⟩
    ·refine .block ?_
     refine .then (.rK ?_)
     refine .ghs (fr 103 [(2,zI z1),(11,sc 1 0 1 n2 c2),(15,zI z3),(63,zI z2),(64,zI z3)]) (hT 2 [oC q2]) (.k [1] [false] [.tmp 11 false] [2,11,15,63,64] ⟨trF h2,trivial⟩) ?_
     refine .then ?_
     replace hm:=bb_inv hm;obtain ⟨h5,hm⟩:=hm
     replace hm:=bb_inv hm;obtain ⟨h6,hm⟩:=hm
     refine .reg (eC 2 (keep (hT 2 [oC q2]) (bb (ieq z1 (0:Int)) none (some (zI (wrapF .i64 (Int.tdiv z3 z1)))))) (keep_nb h5) (eC 2 (keep (hT 2 [oC q2]) (bb (ieq z1 (0:Int)) none (some (zI (Int.tmod z3 z1))))) (keep_nb h6) (eE))) ?_
     refine .ghs (fr 103 [(2,zI z1),(11,sc 1 0 1 n2 c2),(15,zI z3),(16,(zI (wrapF .i64 (Int.tdiv z3 z1)))),(17,(zI (Int.tmod z3 z1))),(63,zI z2),(64,zI z3)]) (hT 2 [oC q2]) (.k [1] [false] [.tmp 11 false] [2,11,15,16,17,63,64] ⟨trF h2,trivial⟩) ?_
     refine .then (.rK ?_)
     refine .ghs (fr 103 [(2,zI z1),(11,sc 1 0 1 n2 c2),(15,zI z3),(16,(zI (wrapF .i64 (Int.tdiv z3 z1)))),(17,(zI (Int.tmod z3 z1))),(63,zI z2),(64,zI z3),(78,(zB (ilt (Int.tmod z3 z1) (wrapF .i64 (Int.sub (wrapF .i64 (Int.sub z1 (1:Int))) (Int.tmod z3 z1))))))]) (hT 2 [oC q2]) (.k [1] [false] [.tmp 11 false] [2,11,15,16,17,63,64,78] ⟨trF h2,trivial⟩) ?_
     replace hm:=bb_cases hm;rcases hm with ⟨h7,hm⟩ | ⟨h7,hm⟩
     ·refine .ifT (ilt (Int.tmod z3 z1) (wrapF .i64 (Int.sub (wrapF .i64 (Int.sub z1 (1 : Int))) (Int.tmod z3 z1)))) (by kernel_rfl) h7 ?_
      refine .then (.rK ?_)
      refine .ghs (fr 103 [(2,zI z1),(11,sc 1 0 1 n2 c2),(15,zI z3),(18,(zI (wrapF .i64 (Int.sub (wrapF .i64 (Int.sub (wrapF .i64 (Int.add (wrapF .i64 (Int.mul (wrapF .i64 (Int.tdiv z3 z1)) z1)) z1)) (1:Int))) (Int.tmod z3 z1))))),(63,zI z2),(64,zI z3)]) (hT 2 [oC q2]) (.k [1] [false] [.tmp 11 false] [2,11,15,18,63,64] ⟨trF h2,trivial⟩) ?_
      replace hm:=oo_inv hm;obtain ⟨k1,h8,hm⟩:=hm
      replace hm:=oo_inv hm;obtain ⟨k2,h9,hm⟩:=hm
      replace hm:=bb_inv hm;obtain ⟨h10,hm⟩:=hm
      replace hm:=oo_inv hm;obtain ⟨v0,h11,hm⟩:=hm
      replace hm:=inv_toI hm;obtain ⟨x0,rfl,hm⟩:=hm
      replace hm:=oo_inv hm;obtain ⟨k3,h12,hm⟩:=hm
      obtain rfl:=toN_some h12
      replace hm:=bb_inv hm;obtain ⟨h13,hm⟩:=hm
      replace hm:=oo_inv hm;obtain ⟨v1,h14,hm⟩:=hm
      replace hm:=inv_toI hm;obtain ⟨x1,rfl,hm⟩:=hm
      replace hm:=bb_inv hm;obtain ⟨h15,hm⟩:=hm
      replace hm:=bb_inv hm;obtain ⟨h16,hm⟩:=hm
      replace hm:=bb_inv hm;obtain ⟨h17,hm⟩:=hm
      replace hm:=bb_inv hm;obtain ⟨h18,hm⟩:=hm
      refine .reg (eN 7 (Fr.puts (fr 103 [(2,zI z1),(11,sc 1 0 1 n2 c2),(15,(zI (Int.ofNat k3))),(18,(zI (wrapF .i64 (Int.sub (wrapF .i64 (Int.sub (wrapF .i64 (Int.add (wrapF .i64 (Int.mul (wrapF .i64 (Int.tdiv (Int.ofNat k3) z1)) z1)) z1)) (1:Int))) (Int.tmod (Int.ofNat k3) z1))))),(63,zI z2),(64,(zI (Int.ofNat k3)))]) [(87,sc 1 0 1 n2 c2),(88,(zI (Int.ofNat k3))),(89,sc 1 0 1 n2 c2),(90,(zI (Int.ofNat k1))),(91,sc 1 0 1 n2 c2),(92,(zI (Int.ofNat k2))),(93,(.pointer (some ⟨1,(0 + k2 * 1),none⟩)))]) (hT 2 [oC q2]) (eC 3 (some ((zI (wrapF .i64 (Int.sub (wrapF .i64 (Int.sub (wrapF .i64 (Int.add (wrapF .i64 (Int.mul (wrapF .i64 (Int.tdiv (Int.ofNat k3) z1)) z1)) z1)) (1:Int))) (Int.tmod (Int.ofNat k3) z1)))),(hT 2 [oC q2]))) (show _ = some ((zI (Int.ofNat k1)),_) from (by rw [toN_some h8])) (eC 1 (some ((zI (wrapF .i64 (Int.sub (wrapF .i64 (Int.sub (wrapF .i64 (Int.add (wrapF .i64 (Int.mul (wrapF .i64 (Int.tdiv (Int.ofNat k3) z1)) z1)) z1)) (1:Int))) (Int.tmod (Int.ofNat k3) z1)))),(hT 2 [oC q2]))) (show _ = some ((zI (Int.ofNat k2)),_) from (by rw [toN_some h9])) (eD (keep (hT 2 [oC q2]) (bb (an (Nat.blt k2 n2) true) (some (.pointer (some ⟨1,(0 + k2 * 1),none⟩))) none)) (keep_bb h10) (by kernel_rfl)))) (eN 5 (Fr.puts (fr 103 [(2,zI z1),(11,sc 1 0 1 n2 c2),(15,(zI (Int.ofNat k3))),(18,(zI (wrapF .i64 (Int.sub (wrapF .i64 (Int.sub (wrapF .i64 (Int.add (wrapF .i64 (Int.mul (wrapF .i64 (Int.tdiv (Int.ofNat k3) z1)) z1)) z1)) (1:Int))) (Int.tmod (Int.ofNat k3) z1))))),(63,zI z2),(64,(zI (Int.ofNat k3)))]) [(87,sc 1 0 1 n2 c2),(88,(zI (Int.ofNat k3))),(89,sc 1 0 1 n2 c2),(90,(zI (Int.ofNat k1))),(91,sc 1 0 1 n2 c2),(92,(zI (Int.ofNat k2))),(93,(.pointer (some ⟨1,(0 + k2 * 1),none⟩))),(94,zI x0),(95,sc 1 0 1 n2 c2),(96,(zI (Int.ofNat k3))),(97,(.pointer (some ⟨1,(0 + k3 * 1),none⟩))),(98,zI x1)]) (hT 2 [oC q2]) (eD (keep (hT 2 [oC q2]) (nthL q2 (0 + k2 * 1))) (keep_eq h11) (eC 2 (keep (hT 2 [oC q2]) (bb (an (Nat.blt k3 n2) true) (some (.pointer (some ⟨1,(0 + k3 * 1),none⟩))) none)) (keep_bb h13) (eD (keep (hT 2 [oC q2]) (nthL q2 (0 + k3 * 1))) (keep_eq h14) (by kernel_rfl)))) (eD (keep (hT 2 [oC q2]) (bb (an (Nat.blt k3 n2) true) (some (.pointer (some ⟨1,(0 + k3 * 1),none⟩))) none)) (keep_bb h15) (eD (done (bb (an (Nat.ble ((0 + k3 * 1) + 1) (len q2)) true) (some (hT 2 [(oC (setL ([zI x0]:LV) (0 + k3 * 1) q2))])) none) undef) (done_bb h16) (eD (keep (hT 2 [(oC (setL ([zI x0]:LV) (0 + k3 * 1) q2))]) (bb (an (Nat.blt k1 n2) true) (some (.pointer (some ⟨1,(0 + k1 * 1),none⟩))) none)) (keep_bb h17) (eD (done (bb (an (Nat.ble ((0 + k1 * 1) + 1) (len (setL ([zI x0]:LV) (0 + k3 * 1) q2))) true) (some (hT 2 [(oC (setL ([zI x1]:LV) (0 + k1 * 1) (setL ([zI x0]:LV) (0 + k3 * 1) q2)))])) none) undef) (done_bb h18) (eE))))))) ?_
      replace hm:=bb_inv hm;obtain ⟨h19,hm⟩:=hm
      exact ⟨(z1,n2,c2,z2,(Int.ofNat k3),(setL ([zI x1]:LV) (0 + k1 * 1) (setL ([zI x0]:LV) (0 + k3 * 1) q2))),hm,(.k [1] [false] [.tmp 11 false] [2,11,63,64] ⟨trF h19,trivial⟩)⟩
     ·refine .ifF (ilt (Int.tmod z3 z1) (wrapF .i64 (Int.sub (wrapF .i64 (Int.sub z1 (1 : Int))) (Int.tmod z3 z1)))) (by kernel_rfl) h7 ?_
      refine .skip ?_
      exact ⟨(z1,n2,c2,z2,z3,q2),hm,(.k [1] [false] [.tmp 11 false] [2,11,63,64] ⟨trF h2,trivial⟩)⟩
   ·refine .ifF (ilt z3 z2) (by kernel_rfl) h3 ?_
    refine .exit ?_
    exact ⟨(n2,c2,q2),hm,(.k [1] [false] [.tmp 11 false] [11] ⟨trF h2,trivial⟩)⟩
  ·refine .ifF b0 (by kernel_rfl) h1 ?_
   refine .skip ?_
   exact ⟨(n0,c0,q0),hm,(.k [1] [false] [.tmp 11 false] [11] ⟨trF h0,trivial⟩)⟩
theorem w10_12 (pu:PureF) (n n0 c0:Nat) (q0:LV) {v:Value} (hm:m10_12 pu n n0 c0 q0 = some v):Run tt (callP tabs isP pu (inl pu)) 1 c10_89 (fr 103 [(11,sc 1 0 1 n0 c0)]) (hT 2 [oC q0]) (Fin tt 1 [.tmp 8] v):=by
 unfold m10_12 at hm
 refine .then (.rK ?_)
 replace hm:=bb_inv hm;obtain ⟨h0,hm⟩:=hm
 refine .ghs (fr 103 [(8,sc 1 0 1 n0 c0)]) (hT 2 [oC q0]) (.k [1] [false] [.tmp 8 false] [8] ⟨trF h0,trivial⟩) ?_
 replace hm:=bb_inv hm;obtain ⟨h1,hm⟩:=hm
 refine .ghs (Fr.puts (fr 103 [(8,sc 1 0 1 n0 c0)]) [(8,(Sl.v 1 (Sl.mk n0 0 (takeL (n0 * 1) (dropL 0 q0)))))]) (hT 2 [.dead]) (.freezeC 1 8 1 (an (Nat.ble (0 + n0 * 1) (len q0)) (allL closed1 (takeL (n0 * 1) (dropL 0 q0)))) (F1:=(Fr.puts (fr 103 [(8,sc 1 0 1 n0 c0)]) [(8,(Sl.v 1 (Sl.mk n0 0 (takeL (n0 * 1) (dropL 0 q0)))))])) (H1:=(hT 2 [.dead])) (by kernel_rfl) (by kernel_rfl) h1 (GhS.id _ _)) ?_
 refine .ret ?_
 exact fin_ret (Sl.v 1 (Sl.mk n0 0 (takeL (n0 * 1) (dropL 0 q0)))) (by kernel_rfl) (by kernel_rfl) hm
theorem w10_11 (pu:PureF) (n:Nat) (z0:Int) (b0:Bool) (n0 c0:Nat) (q0:LV) {v:Value} (hm:m10_11 pu n z0 b0 n0 c0 q0 = some v):Run tt (callP tabs isP pu (inl pu)) 1 c10_90 (fr 103 [(2,zI z0),(10,zB b0),(11,sc 1 0 1 n0 c0)]) (hT 2 [oC q0]) (Fin tt 1 [.tmp 8] v):=by
 unfold m10_11 at hm
 refine .join (v:=v) (fun y:Nat×Nat×LV=>((fr 103 [(11,(sc 1 0 1 y.1 y.2.1))]),(hT 2 [(oC y.2.2)]))) (fun y=>m10_12 pu n y.1 y.2.1 y.2.2) ?_ ?_
 ·rintro ⟨n1, c1, q1⟩ hm
  exact w10_12 pu n n1 c1 q1 hm
 ·refine .then (.rK ?_)
  replace hm:=bb_inv hm;obtain ⟨h0,hm⟩:=hm
  refine .ghs (fr 103 [(2,zI z0),(11,sc 1 0 1 n0 c0),(61,zB b0)]) (hT 2 [oC q0]) (.k [1] [false] [.tmp 11 false] [2,11,61] ⟨trF h0,trivial⟩) ?_
  replace hm:=bb_cases hm;rcases hm with ⟨h1,hm⟩ | ⟨h1,hm⟩
  ·refine .ifT b0 (by kernel_rfl) h1 ?_
   refine .then (.rK ?_)
   refine .ghs (fr 103 [(2,zI z0),(11,sc 1 0 1 n0 c0),(63,(zI (Int.ofNat n0))),(64,(zI (0:Int)))]) (hT 2 [oC q0]) (.k [1] [false] [.tmp 11 false] [2,11,63,64] ⟨trF h0,trivial⟩) ?_
   refine .block ?_
   refine .loopM (v:=v) (fun y:Int×Nat×Nat×Int×Int×LV=>((fr 103 [(2,(zI y.1)),(11,(sc 1 0 1 y.2.1 y.2.2.1)),(63,(zI y.2.2.2.1)),(64,(zI y.2.2.2.2.1))]),(hT 2 [(oC y.2.2.2.2.2)]))) (fun w y=>l10_13 pu n w y.1 y.2.1 y.2.2.1 y.2.2.2.1 y.2.2.2.2.1 y.2.2.2.2.2) n ⟨(z0,n0,c0,(Int.ofNat n0),(0:Int),q0),hm,(.k [1] [false] [.tmp 11 false] [2,11,63,64] ⟨trF h0,trivial⟩)⟩ (fun _=>rfl) ?_
   rintro w0 ⟨z1,n2,c2,z2,z3,q2⟩ hm
   replace hm:b10_13 pu n (l10_13 pu n w0) z1 n2 c2 z2 z3 q2 = some v:=hm
   unfold b10_13 at hm
   refine .then (.rK ?_)
   replace hm:=bb_inv hm;obtain ⟨h2,hm⟩:=hm
   refine .ghs (fr 103 [(2,zI z1),(11,sc 1 0 1 n2 c2),(63,zI z2),(64,zI z3),(65,(zB (ilt z3 z2)))]) (hT 2 [oC q2]) (.k [1] [false] [.tmp 11 false] [2,11,63,64,65] ⟨trF h2,trivial⟩) ?_
   refine .then ?_
   replace hm:=bb_cases hm;rcases hm with ⟨h3,hm⟩ | ⟨h3,hm⟩
   ·refine .ifT (ilt z3 z2) (by kernel_rfl) h3 ?_
    refine .skip ?_
    refine .ghs (fr 103 [(2,zI z1),(11,sc 1 0 1 n2 c2),(63,zI z2),(64,zI z3)]) (hT 2 [oC q2]) (.k [1] [false] [.tmp 11 false] [2,11,63,64] ⟨trF h2,trivial⟩) ?_
    refine .join (v:=v) (fun y:Int×Nat×Nat×Int×Int×LV=>((fr 103 [(2,(zI y.1)),(11,(sc 1 0 1 y.2.1 y.2.2.1)),(63,(zI y.2.2.2.1)),(64,(zI y.2.2.2.2.1))]),(hT 2 [(oC y.2.2.2.2.2)]))) (fun y=>m10_14 pu n (l10_13 pu n w0) y.1 y.2.1 y.2.2.1 y.2.2.2.1 y.2.2.2.2.1 y.2.2.2.2.2) ?_ ?_
    ·rintro ⟨z4, n3, c3, z5, z6, q3⟩ hm
     unfold m10_14 at hm
     refine .rK ?_
     replace hm:=bb_inv hm;obtain ⟨h4,hm⟩:=hm
     exact ⟨(z4,n3,c3,z5,(wrapF .i64 (Int.add z6 (1:Int))),q3),hm,(.k [1] [false] [.tmp 11 false] [2,11,63,64] ⟨trF h4,trivial⟩)⟩
    ·refine .block ?_
     refine .then (.rK ?_)
     refine .ghs (fr 103 [(2,zI z1),(11,sc 1 0 1 n2 c2),(15,zI z3),(63,zI z2),(64,zI z3)]) (hT 2 [oC q2]) (.k [1] [false] [.tmp 11 false] [2,11,15,63,64] ⟨trF h2,trivial⟩) ?_
     refine .then ?_
     replace hm:=bb_inv hm;obtain ⟨h5,hm⟩:=hm
     replace hm:=bb_inv hm;obtain ⟨h6,hm⟩:=hm
     refine .reg (eC 2 (keep (hT 2 [oC q2]) (bb (ieq z1 (0:Int)) none (some (zI (wrapF .i64 (Int.tdiv z3 z1)))))) (keep_nb h5) (eC 2 (keep (hT 2 [oC q2]) (bb (ieq z1 (0:Int)) none (some (zI (Int.tmod z3 z1))))) (keep_nb h6) (eE))) ?_
     refine .ghs (fr 103 [(2,zI z1),(11,sc 1 0 1 n2 c2),(15,zI z3),(16,(zI (wrapF .i64 (Int.tdiv z3 z1)))),(17,(zI (Int.tmod z3 z1))),(63,zI z2),(64,zI z3)]) (hT 2 [oC q2]) (.k [1] [false] [.tmp 11 false] [2,11,15,16,17,63,64] ⟨trF h2,trivial⟩) ?_
     refine .then (.rK ?_)
     refine .ghs (fr 103 [(2,zI z1),(11,sc 1 0 1 n2 c2),(15,zI z3),(16,(zI (wrapF .i64 (Int.tdiv z3 z1)))),(17,(zI (Int.tmod z3 z1))),(63,zI z2),(64,zI z3),(78,(zB (ilt (Int.tmod z3 z1) (wrapF .i64 (Int.sub (wrapF .i64 (Int.sub z1 (1:Int))) (Int.tmod z3 z1))))))]) (hT 2 [oC q2]) (.k [1] [false] [.tmp 11 false] [2,11,15,16,17,63,64,78] ⟨trF h2,trivial⟩) ?_
     replace hm:=bb_cases hm;rcases hm with ⟨h7,hm⟩ | ⟨h7,hm⟩
     ·refine .ifT (ilt (Int.tmod z3 z1) (wrapF .i64 (Int.sub (wrapF .i64 (Int.sub z1 (1 : Int))) (Int.tmod z3 z1)))) (by kernel_rfl) h7 ?_
      refine .then (.rK ?_)
      refine .ghs (fr 103 [(2,zI z1),(11,sc 1 0 1 n2 c2),(15,zI z3),(18,(zI (wrapF .i64 (Int.sub (wrapF .i64 (Int.sub (wrapF .i64 (Int.add (wrapF .i64 (Int.mul (wrapF .i64 (Int.tdiv z3 z1)) z1)) z1)) (1:Int))) (Int.tmod z3 z1))))),(63,zI z2),(64,zI z3)]) (hT 2 [oC q2]) (.k [1] [false] [.tmp 11 false] [2,11,15,18,63,64] ⟨trF h2,trivial⟩) ?_
      replace hm:=oo_inv hm;obtain ⟨k1,h8,hm⟩:=hm
      replace hm:=oo_inv hm;obtain ⟨k2,h9,hm⟩:=hm
      replace hm:=bb_inv hm;obtain ⟨h10,hm⟩:=hm
      replace hm:=oo_inv hm;obtain ⟨v0,h11,hm⟩:=hm
      replace hm:=inv_toI hm;obtain ⟨x0,rfl,hm⟩:=hm
      replace hm:=oo_inv hm;obtain ⟨k3,h12,hm⟩:=hm
      obtain rfl:=toN_some h12
      replace hm:=bb_inv hm;obtain ⟨h13,hm⟩:=hm
      replace hm:=oo_inv hm;obtain ⟨v1,h14,hm⟩:=hm
      replace hm:=inv_toI hm;obtain ⟨x1,rfl,hm⟩:=hm
      replace hm:=bb_inv hm;obtain ⟨h15,hm⟩:=hm
      replace hm:=bb_inv hm;obtain ⟨h16,hm⟩:=hm
      replace hm:=bb_inv hm;obtain ⟨h17,hm⟩:=hm
      replace hm:=bb_inv hm;obtain ⟨h18,hm⟩:=hm
      refine .reg (eN 7 (Fr.puts (fr 103 [(2,zI z1),(11,sc 1 0 1 n2 c2),(15,(zI (Int.ofNat k3))),(18,(zI (wrapF .i64 (Int.sub (wrapF .i64 (Int.sub (wrapF .i64 (Int.add (wrapF .i64 (Int.mul (wrapF .i64 (Int.tdiv (Int.ofNat k3) z1)) z1)) z1)) (1:Int))) (Int.tmod (Int.ofNat k3) z1))))),(63,zI z2),(64,(zI (Int.ofNat k3)))]) [(87,sc 1 0 1 n2 c2),(88,(zI (Int.ofNat k3))),(89,sc 1 0 1 n2 c2),(90,(zI (Int.ofNat k1))),(91,sc 1 0 1 n2 c2),(92,(zI (Int.ofNat k2))),(93,(.pointer (some ⟨1,(0 + k2 * 1),none⟩)))]) (hT 2 [oC q2]) (eC 3 (some ((zI (wrapF .i64 (Int.sub (wrapF .i64 (Int.sub (wrapF .i64 (Int.add (wrapF .i64 (Int.mul (wrapF .i64 (Int.tdiv (Int.ofNat k3) z1)) z1)) z1)) (1:Int))) (Int.tmod (Int.ofNat k3) z1)))),(hT 2 [oC q2]))) (show _ = some ((zI (Int.ofNat k1)),_) from (by rw [toN_some h8])) (eC 1 (some ((zI (wrapF .i64 (Int.sub (wrapF .i64 (Int.sub (wrapF .i64 (Int.add (wrapF .i64 (Int.mul (wrapF .i64 (Int.tdiv (Int.ofNat k3) z1)) z1)) z1)) (1:Int))) (Int.tmod (Int.ofNat k3) z1)))),(hT 2 [oC q2]))) (show _ = some ((zI (Int.ofNat k2)),_) from (by rw [toN_some h9])) (eD (keep (hT 2 [oC q2]) (bb (an (Nat.blt k2 n2) true) (some (.pointer (some ⟨1,(0 + k2 * 1),none⟩))) none)) (keep_bb h10) (by kernel_rfl)))) (eN 5 (Fr.puts (fr 103 [(2,zI z1),(11,sc 1 0 1 n2 c2),(15,(zI (Int.ofNat k3))),(18,(zI (wrapF .i64 (Int.sub (wrapF .i64 (Int.sub (wrapF .i64 (Int.add (wrapF .i64 (Int.mul (wrapF .i64 (Int.tdiv (Int.ofNat k3) z1)) z1)) z1)) (1:Int))) (Int.tmod (Int.ofNat k3) z1))))),(63,zI z2),(64,(zI (Int.ofNat k3)))]) [(87,sc 1 0 1 n2 c2),(88,(zI (Int.ofNat k3))),(89,sc 1 0 1 n2 c2),(90,(zI (Int.ofNat k1))),(91,sc 1 0 1 n2 c2),(92,(zI (Int.ofNat k2))),(93,(.pointer (some ⟨1,(0 + k2 * 1),none⟩))),(94,zI x0),(95,sc 1 0 1 n2 c2),(96,(zI (Int.ofNat k3))),(97,(.pointer (some ⟨1,(0 + k3 * 1),none⟩))),(98,zI x1)]) (hT 2 [oC q2]) (eD (keep (hT 2 [oC q2]) (nthL q2 (0 + k2 * 1))) (keep_eq h11) (eC 2 (keep (hT 2 [oC q2]) (bb (an (Nat.blt k3 n2) true) (some (.pointer (some ⟨1,(0 + k3 * 1),none⟩))) none)) (keep_bb h13) (eD (keep (hT 2 [oC q2]) (nthL q2 (0 + k3 * 1))) (keep_eq h14) (by kernel_rfl)))) (eD (keep (hT 2 [oC q2]) (bb (an (Nat.blt k3 n2) true) (some (.pointer (some ⟨1,(0 + k3 * 1),none⟩))) none)) (keep_bb h15) (eD (done (bb (an (Nat.ble ((0 + k3 * 1) + 1) (len q2)) true) (some (hT 2 [(oC (setL ([zI x0]:LV) (0 + k3 * 1) q2))])) none) undef) (done_bb h16) (eD (keep (hT 2 [(oC (setL ([zI x0]:LV) (0 + k3 * 1) q2))]) (bb (an (Nat.blt k1 n2) true) (some (.pointer (some ⟨1,(0 + k1 * 1),none⟩))) none)) (keep_bb h17) (eD (done (bb (an (Nat.ble ((0 + k1 * 1) + 1) (len (setL ([zI x0]:LV) (0 + k3 * 1) q2))) true) (some (hT 2 [(oC (setL ([zI x1]:LV) (0 + k1 * 1) (setL ([zI x0]:LV) (0 + k3 * 1) q2)))])) none) undef) (done_bb h18) (eE))))))) ?_
      replace hm:=bb_inv hm;obtain ⟨h19,hm⟩:=hm
      exact ⟨(z1,n2,c2,z2,(Int.ofNat k3),(setL ([zI x1]:LV) (0 + k1 * 1) (setL ([zI x0]:LV) (0 + k3 * 1) q2))),hm,(.k [1] [false] [.tmp 11 false] [2,11,63,64] ⟨trF h19,trivial⟩)⟩
     ·refine .ifF (ilt (Int.tmod z3 z1) (wrapF .i64 (Int.sub (wrapF .i64 (Int.sub z1 (1 : Int))) (Int.tmod z3 z1)))) (by kernel_rfl) h7 ?_
      refine .skip ?_
      exact ⟨(z1,n2,c2,z2,z3,q2),hm,(.k [1] [false] [.tmp 11 false] [2,11,63,64] ⟨trF h2,trivial⟩)⟩
   ·refine .ifF (ilt z3 z2) (by kernel_rfl) h3 ?_
    refine .exit ?_
    exact ⟨(n2,c2,q2),hm,(.k [1] [false] [.tmp 11 false] [11] ⟨trF h2,trivial⟩)⟩
  ·refine .ifF b0 (by kernel_rfl) h1 ?_
   refine .skip ?_
   exact ⟨(n0,c0,q0),hm,(.k [1] [false] [.tmp 11 false] [11] ⟨trF h0,trivial⟩)⟩
theorem w10_0 (pu:PureF) (n:Nat) (s0:Sl) (z0 z1 z2:Int) (b0:Bool) {v:Value} (hm:m10_0 pu n s0 z0 z1 z2 b0 = some v):Run tt (callP tabs isP pu (inl pu)) 1 c10_92 (fr 103 [(0,Sl.v 1 s0),(1,zI z0),(2,zI z1),(9,zI z2),(10,zB b0)]) (hp 1 [(oT tab0)]) (Fin tt 1 [.tmp 8] v):=by
 unfold m10_0 at hm
 refine .then ?_
 replace hm:=bb_cases hm;rcases hm with ⟨h0,hm⟩ | ⟨h0,hm⟩
 ·refine .reg (eC 2 (appFs (hT 2 [(oC [])]) 1 8 (sc 1 0 1 0 1) s0) (appFs_sl0 h0) (eE)) ?_
  refine .ghs (fr 103 [(1,zI z0),(2,zI z1),(9,zI z2),(10,zB b0),(11,sc 1 0 1 0 1)]) (hT 2 [(oC [])]) (.k0 [false] [.tmp 11 false] [1,2,9,10,11]) ?_
  refine .join (v:=v) (fun y:Int×Bool×Nat×Nat×LV=>((fr 103 [(2,(zI y.1)),(10,(zB y.2.1)),(11,(sc 1 0 1 y.2.2.1 y.2.2.2.1))]),(hT 2 [(oC y.2.2.2.2)]))) (fun y=>m10_1 pu n y.1 y.2.1 y.2.2.1 y.2.2.2.1 y.2.2.2.2) ?_ ?_
  ·rintro ⟨z3, b1, n0, c0, q0⟩ hm
   exact w10_1 pu n z3 b1 n0 c0 q0 hm
  ·refine .then (.rK ?_)
   refine .ghs (fr 103 [(1,zI z0),(2,zI z1),(10,zB b0),(11,sc 1 0 1 0 1),(32,zI z2),(33,(zI (0:Int)))]) (hT 2 [(oC [])]) (.k0 [false] [.tmp 11 false] [1,2,10,11,32,33]) ?_
   refine .block ?_
   refine .loopM (v:=v) (fun y:Int×Int×Bool×Nat×Nat×Int×Int×LV=>((fr 103 [(1,(zI y.1)),(2,(zI y.2.1)),(10,(zB y.2.2.1)),(11,(sc 1 0 1 y.2.2.2.1 y.2.2.2.2.1)),(32,(zI y.2.2.2.2.2.1)),(33,(zI y.2.2.2.2.2.2.1))]),(hT 2 [(oC y.2.2.2.2.2.2.2)]))) (fun w y=>l10_5 pu n w y.1 y.2.1 y.2.2.1 y.2.2.2.1 y.2.2.2.2.1 y.2.2.2.2.2.1 y.2.2.2.2.2.2.1 y.2.2.2.2.2.2.2) n ⟨(z0,z1,b0,0,1,z2,(0:Int),([]:LV)),hm,(.k0 [false] [.tmp 11 false] [1,2,10,11,32,33])⟩ (fun _=>rfl) ?_
   rintro w0 ⟨z4,z5,b2,n1,c1,z6,z7,q1⟩ hm
   replace hm:b10_5 pu n (l10_5 pu n w0) z4 z5 b2 n1 c1 z6 z7 q1 = some v:=hm
   unfold b10_5 at hm
   refine .then (.rK ?_)
   replace hm:=bb_inv hm;obtain ⟨h1,hm⟩:=hm
   refine .ghs (fr 103 [(1,zI z4),(2,zI z5),(10,zB b2),(11,sc 1 0 1 n1 c1),(32,zI z6),(33,zI z7),(34,(zB (ilt z7 z6)))]) (hT 2 [oC q1]) (.k [1] [false] [.tmp 11 false] [1,2,10,11,32,33,34] ⟨trF h1,trivial⟩) ?_
   refine .then ?_
   replace hm:=bb_cases hm;rcases hm with ⟨h2,hm⟩ | ⟨h2,hm⟩
   ·refine .ifT (ilt z7 z6) (by kernel_rfl) h2 ?_
    refine .skip ?_
    refine .ghs (fr 103 [(1,zI z4),(2,zI z5),(10,zB b2),(11,sc 1 0 1 n1 c1),(32,zI z6),(33,zI z7)]) (hT 2 [oC q1]) (.k [1] [false] [.tmp 11 false] [1,2,10,11,32,33] ⟨trF h1,trivial⟩) ?_
    refine .join (v:=v) (fun y:Int×Int×Bool×Nat×Nat×Int×Int×LV=>((fr 103 [(1,(zI y.1)),(2,(zI y.2.1)),(10,(zB y.2.2.1)),(11,(sc 1 0 1 y.2.2.2.1 y.2.2.2.2.1)),(32,(zI y.2.2.2.2.2.1)),(33,(zI y.2.2.2.2.2.2.1))]),(hT 2 [(oC y.2.2.2.2.2.2.2)]))) (fun y=>m10_6 pu n (l10_5 pu n w0) y.1 y.2.1 y.2.2.1 y.2.2.2.1 y.2.2.2.2.1 y.2.2.2.2.2.1 y.2.2.2.2.2.2.1 y.2.2.2.2.2.2.2) ?_ ?_
    ·rintro ⟨z8, z9, b3, n2, c2, z10, z11, q2⟩ hm
     unfold m10_6 at hm
     refine .rK ?_
     replace hm:=bb_inv hm;obtain ⟨h3,hm⟩:=hm
     exact ⟨(z8,z9,b3,n2,c2,z10,(wrapF .i64 (Int.add z11 (1:Int))),q2),hm,(.k [1] [false] [.tmp 11 false] [1,2,10,11,32,33] ⟨trF h3,trivial⟩)⟩
    ·refine .block ?_
     refine .then (.rK ?_)
     refine .ghs (fr 103 [(1,zI z4),(2,zI z5),(10,zB b2),(11,sc 1 0 1 n1 c1),(12,(.slice none 0 0)),(32,zI z6),(33,zI z7)]) (hT 2 [oC q1]) (.k [1] [false] [.tmp 11 false] [1,2,10,11,12,32,33] ⟨trF h1,trivial⟩) ?_
     refine .join (v:=v) (fun y:Int×Int×Bool×Nat×Nat×Int×Int×LV=>((fr 103 [(1,(zI y.1)),(2,(zI y.2.1)),(10,(zB y.2.2.1)),(12,(sc 1 0 1 y.2.2.2.1 y.2.2.2.2.1)),(32,(zI y.2.2.2.2.2.1)),(33,(zI y.2.2.2.2.2.2.1))]),(hT 2 [(oC y.2.2.2.2.2.2.2)]))) (fun y=>m10_7 pu n (l10_5 pu n w0) y.1 y.2.1 y.2.2.1 y.2.2.2.1 y.2.2.2.2.1 y.2.2.2.2.2.1 y.2.2.2.2.2.2.1 y.2.2.2.2.2.2.2) ?_ ?_
     ·rintro ⟨z12, z13, b4, n3, c3, z14, z15, q3⟩ hm
      unfold m10_7 at hm
      refine .then (.rK ?_)
      replace hm:=bb_inv hm;obtain ⟨h4,hm⟩:=hm
      refine .ghs (fr 103 [(1,zI z12),(2,zI z13),(10,zB b4),(11,sc 1 0 1 n3 c3),(32,zI z14),(33,zI z15)]) (hT 2 [oC q3]) (.k [1] [false] [.tmp 11 false] [1,2,10,11,32,33] ⟨trF h4,trivial⟩) ?_
      refine .rK ?_
      exact ⟨(z13,z12,b4,n3,c3,z14,z15,q3),hm,(.k [1] [false] [.tmp 11 false] [1,2,10,11,32,33] ⟨trF h4,trivial⟩)⟩
     ·refine .then (.rK ?_)
      refine .ghs (fr 103 [(1,zI z4),(2,zI z5),(10,zB b2),(11,sc 1 0 1 n1 c1),(12,(.slice none 0 0)),(32,zI z6),(33,zI z7),(35,zI z5),(36,(zI (0:Int)))]) (hT 2 [oC q1]) (.k [1] [false] [.tmp 11 false] [1,2,10,11,12,32,33,35,36] ⟨trF h1,trivial⟩) ?_
      refine .block ?_
      refine .loopM (v:=v) (fun y:Int×Int×Bool×Nat×Nat×Nat×Nat×Int×Int×Int×Int×LV×LV=>((fr 103 [(1,(zI y.1)),(2,(zI y.2.1)),(10,(zB y.2.2.1)),(11,(sc 1 0 1 y.2.2.2.1 y.2.2.2.2.1)),(12,(sc 2 0 1 y.2.2.2.2.2.1 y.2.2.2.2.2.2.1)),(32,(zI y.2.2.2.2.2.2.2.1)),(33,(zI y.2.2.2.2.2.2.2.2.1)),(35,(zI y.2.2.2.2.2.2.2.2.2.1)),(36,(zI y.2.2.2.2.2.2.2.2.2.2.1))]),(hT 3 [(oC y.2.2.2.2.2.2.2.2.2.2.2.1),(oC y.2.2.2.2.2.2.2.2.2.2.2.2)]))) (fun w y=>l10_8 pu n (l10_5 pu n w0) w y.1 y.2.1 y.2.2.1 y.2.2.2.1 y.2.2.2.2.1 y.2.2.2.2.2.1 y.2.2.2.2.2.2.1 y.2.2.2.2.2.2.2.1 y.2.2.2.2.2.2.2.2.1 y.2.2.2.2.2.2.2.2.2.1 y.2.2.2.2.2.2.2.2.2.2.1 y.2.2.2.2.2.2.2.2.2.2.2.1 y.2.2.2.2.2.2.2.2.2.2.2.2) n ⟨(z4,z5,b2,n1,c1,0,0,z6,z7,z5,(0:Int),q1,([]:LV)),hm,(.thaw 12 1 (by kernel_rfl) (.k [1] [false] [.tmp 11 false,.tmp 12 false] [1,2,10,11,12,32,33,35,36] ⟨trF h1,trivial⟩))⟩ (fun _=>rfl) ?_
      rintro w1 ⟨z16,z17,b5,n4,c4,n5,c5,z18,z19,z20,z21,q4,q5⟩ hm
      replace hm:b10_8 pu n (l10_5 pu n w0) (l10_8 pu n (l10_5 pu n w0) w1) z16 z17 b5 n4 c4 n5 c5 z18 z19 z20 z21 q4 q5 = some v:=hm
      unfold b10_8 at hm
      refine .then (.rK ?_)
      replace hm:=bb_inv hm;obtain ⟨h5,hm⟩:=hm
      replace hm:=bb_inv hm;obtain ⟨h6,hm⟩:=hm
      refine .ghs (fr 103 [(1,zI z16),(2,zI z17),(10,zB b5),(11,sc 1 0 1 n4 c4),(12,sc 2 0 1 n5 c5),(32,zI z18),(33,zI z19),(35,zI z20),(36,zI z21),(37,(zB (ilt z21 z20)))]) (hT 3 [oC q4,oC q5]) (.k [1,2] [false] [.tmp 11 false,.tmp 12 false] [1,2,10,11,12,32,33,35,36,37] ⟨trF h5,trF h6,trivial⟩) ?_
      refine .then ?_
      replace hm:=bb_cases hm;rcases hm with ⟨h7,hm⟩ | ⟨h7,hm⟩
      ·refine .ifT (ilt z21 z20) (by kernel_rfl) h7 ?_
       refine .skip ?_
       refine .ghs (fr 103 [(1,zI z16),(2,zI z17),(10,zB b5),(11,sc 1 0 1 n4 c4),(12,sc 2 0 1 n5 c5),(32,zI z18),(33,zI z19),(35,zI z20),(36,zI z21)]) (hT 3 [oC q4,oC q5]) (.k [1,2] [false] [.tmp 11 false,.tmp 12 false] [1,2,10,11,12,32,33,35,36] ⟨trF h5,trF h6,trivial⟩) ?_
       refine .join (v:=v) (fun y:Int×Int×Bool×Nat×Nat×Nat×Nat×Int×Int×Int×Int×LV×LV=>((fr 103 [(1,(zI y.1)),(2,(zI y.2.1)),(10,(zB y.2.2.1)),(11,(sc 1 0 1 y.2.2.2.1 y.2.2.2.2.1)),(12,(sc 2 0 1 y.2.2.2.2.2.1 y.2.2.2.2.2.2.1)),(32,(zI y.2.2.2.2.2.2.2.1)),(33,(zI y.2.2.2.2.2.2.2.2.1)),(35,(zI y.2.2.2.2.2.2.2.2.2.1)),(36,(zI y.2.2.2.2.2.2.2.2.2.2.1))]),(hT 3 [(oC y.2.2.2.2.2.2.2.2.2.2.2.1),(oC y.2.2.2.2.2.2.2.2.2.2.2.2)]))) (fun y=>m10_9 pu n (l10_5 pu n w0) (l10_8 pu n (l10_5 pu n w0) w1) y.1 y.2.1 y.2.2.1 y.2.2.2.1 y.2.2.2.2.1 y.2.2.2.2.2.1 y.2.2.2.2.2.2.1 y.2.2.2.2.2.2.2.1 y.2.2.2.2.2.2.2.2.1 y.2.2.2.2.2.2.2.2.2.1 y.2.2.2.2.2.2.2.2.2.2.1 y.2.2.2.2.2.2.2.2.2.2.2.1 y.2.2.2.2.2.2.2.2.2.2.2.2) ?_ ?_
       ·rintro ⟨z22, z23, b7, n6, c7, n7, c8, z24, z25, z26, z27, q6, q7⟩ hm
        unfold m10_9 at hm
        refine .rK ?_
        replace hm:=bb_inv hm;obtain ⟨h8,hm⟩:=hm
        replace hm:=bb_inv hm;obtain ⟨h9,hm⟩:=hm
        exact ⟨(z22,z23,b7,n6,c7,n7,c8,z24,z25,z26,(wrapF .i64 (Int.add z27 (1:Int))),q6,q7),hm,(.k [1,2] [false] [.tmp 11 false,.tmp 12 false] [1,2,10,11,12,32,33,35,36] ⟨trF h8,trF h9,trivial⟩)⟩
       ·refine .block ?_
        refine .then (.rK ?_)
        refine .ghs (fr 103 [(1,zI z16),(2,zI z17),(10,zB b5),(11,sc 1 0 1 n4 c4),(12,sc 2 0 1 n5 c5),(13,zI z21),(32,zI z18),(33,zI z19),(35,zI z20),(36,zI z21)]) (hT 3 [oC q4,oC q5]) (.k [1,2] [false] [.tmp 11 false,.tmp 12 false] [1,2,10,11,12,13,32,33,35,36] ⟨trF h5,trF h6,trivial⟩) ?_
        refine .then (.rK ?_)
        refine .ghs (fr 103 [(1,zI z16),(2,zI z17),(10,zB b5),(11,sc 1 0 1 n4 c4),(12,sc 2 0 1 n5 c5),(13,zI z21),(14,(zI (wrapF .i64 (Int.sub z16 (1:Int))))),(32,zI z18),(33,zI z19),(35,zI z20),(36,zI z21)]) (hT 3 [oC q4,oC q5]) (.k [1,2] [false] [.tmp 11 false,.tmp 12 false] [1,2,10,11,12,13,14,32,33,35,36] ⟨trF h5,trF h6,trivial⟩) ?_
        refine .block ?_
        refine .loopM (v:=v) (fun y:Int×Int×Bool×Nat×Nat×Nat×Nat×Int×Int×Int×Int×Int×Int×LV×LV=>((fr 103 [(1,(zI y.1)),(2,(zI y.2.1)),(10,(zB y.2.2.1)),(11,(sc 1 0 1 y.2.2.2.1 y.2.2.2.2.1)),(12,(sc 2 0 1 y.2.2.2.2.2.1 y.2.2.2.2.2.2.1)),(13,(zI y.2.2.2.2.2.2.2.1)),(14,(zI y.2.2.2.2.2.2.2.2.1)),(32,(zI y.2.2.2.2.2.2.2.2.2.1)),(33,(zI y.2.2.2.2.2.2.2.2.2.2.1)),(35,(zI y.2.2.2.2.2.2.2.2.2.2.2.1)),(36,(zI y.2.2.2.2.2.2.2.2.2.2.2.2.1))]),(hT 3 [(oC y.2.2.2.2.2.2.2.2.2.2.2.2.2.1),(oC y.2.2.2.2.2.2.2.2.2.2.2.2.2.2)]))) (fun w y=>l10_10 pu n (l10_5 pu n w0) (l10_8 pu n (l10_5 pu n w0) w1) w y.1 y.2.1 y.2.2.1 y.2.2.2.1 y.2.2.2.2.1 y.2.2.2.2.2.1 y.2.2.2.2.2.2.1 y.2.2.2.2.2.2.2.1 y.2.2.2.2.2.2.2.2.1 y.2.2.2.2.2.2.2.2.2.1 y.2.2.2.2.2.2.2.2.2.2.1 y.2.2.2.2.2.2.2.2.2.2.2.1 y.2.2.2.2.2.2.2.2.2.2.2.2.1 y.2.2.2.2.2.2.2.2.2.2.2.2.2.1 y.2.2.2.2.2.2.2.2.2.2.2.2.2.2) n ⟨(z16,z17,b5,n4,c4,n5,c5,z21,(wrapF .i64 (Int.sub z16 (1:Int))),z18,z19,z20,z21,q4,q5),hm,(.k [1,2] [false] [.tmp 11 false,.tmp 12 false] [1,2,10,11,12,13,14,32,33,35,36] ⟨trF h5,trF h6,trivial⟩)⟩ (fun _=>rfl) ?_
        rintro w2 ⟨z28,z29,b8,n8,c9,n9,c13,z30,z31,z32,z33,z34,z35,q8,q9⟩ hm
        replace hm:b10_10 pu n (l10_5 pu n w0) (l10_8 pu n (l10_5 pu n w0) w1) (l10_10 pu n (l10_5 pu n w0) (l10_8 pu n (l10_5 pu n w0) w1) w2) z28 z29 b8 n8 c9 n9 c13 z30 z31 z32 z33 z34 z35 q8 q9 = some v:=hm
        unfold b10_10 at hm
        refine .then ?_
        refine .then (.rK ?_)
        replace hm:=bb_inv hm;obtain ⟨h10,hm⟩:=hm
        replace hm:=bb_inv hm;obtain ⟨h11,hm⟩:=hm
        refine .ghs (fr 103 [(1,zI z28),(2,zI z29),(10,zB b8),(11,sc 1 0 1 n8 c9),(12,sc 2 0 1 n9 c13),(13,zI z30),(14,zI z31),(32,zI z32),(33,zI z33),(35,zI z34),(36,zI z35),(42,(zB (nt (ilt z31 (0:Int)))))]) (hT 3 [oC q8,oC q9]) (.k [1,2] [false] [.tmp 11 false,.tmp 12 false] [1,2,10,11,12,13,14,32,33,35,36,42] ⟨trF h10,trF h11,trivial⟩) ?_
        replace hm:=bb_cases hm;rcases hm with ⟨h12,hm⟩ | ⟨h12,hm⟩
        ·refine .ifT (nt (ilt z31 (0 : Int))) (by kernel_rfl) h12 ?_
         refine .skip ?_
         refine .ghs (fr 103 [(1,zI z28),(2,zI z29),(10,zB b8),(11,sc 1 0 1 n8 c9),(12,sc 2 0 1 n9 c13),(13,zI z30),(14,zI z31),(32,zI z32),(33,zI z33),(35,zI z34),(36,zI z35)]) (hT 3 [oC q8,oC q9]) (.k [1,2] [false] [.tmp 11 false,.tmp 12 false] [1,2,10,11,12,13,14,32,33,35,36] ⟨trF h10,trF h11,trivial⟩) ?_
         refine .then ?_
         refine .block ?_
         replace hm:=oo_inv hm;obtain ⟨k1,h13,hm⟩:=hm
         replace hm:=bb_inv hm;obtain ⟨h14,hm⟩:=hm
         replace hm:=oo_inv hm;obtain ⟨v0,h15,hm⟩:=hm
         replace hm:=inv_toI hm;obtain ⟨x0,rfl,hm⟩:=hm
         replace hm:=bb_inv hm;obtain ⟨h16,hm⟩:=hm
         refine .reg (eC 6 (some ((zI (wrapF .i64 (Int.add (wrapF .i64 (Int.mul z31 z29)) z30))),(hT 3 [oC q8,oC q9]))) (show _ = some ((zI (Int.ofNat k1)),_) from (by rw [toN_some h13])) (eD (keep (hT 3 [oC q8,oC q9]) (bb (an (Nat.blt k1 n8) true) (some (.pointer (some ⟨1,(0 + k1 * 1),none⟩))) none)) (keep_bb h14) (eD (keep (hT 3 [oC q8,oC q9]) (nthL q8 (0 + k1 * 1))) (keep_eq h15) (eC 1 (growD 1 8 n9 c13 1 2 q9 [zI x0] [] (hT 4 [oC q8,oC q9,(oC [zI x0])])) (growD_eq h16) (eE))))) ?_
         replace hm:=bb_inv hm;obtain ⟨h17,hm⟩:=hm
         refine .ghs (fr 103 [(1,zI z28),(2,zI z29),(10,zB b8),(11,sc 1 0 1 n8 c9),(12,(sc 2 0 1 (n9 + 1) (d2 (n9 + 1)))),(13,zI z30),(14,zI z31),(32,zI z32),(33,zI z33),(35,zI z34),(36,zI z35)]) (hT 3 [oC q8,(oC (appL (dropL 0 q9) [zI x0]))]) (.k [1,4] [false] [.tmp 11 false,.tmp 12 false] [1,2,10,11,12,13,14,32,33,35,36] ⟨trF h10,trF h17,trivial⟩) ?_
         refine .rK ?_
         exact ⟨(z28,z29,b8,n8,c9,(n9 + 1),(d2 (n9 + 1)),z30,(wrapF .i64 (Int.sub z31 (1:Int))),z32,z33,z34,z35,q8,(appL (dropL 0 q9) [zI x0])),hm,(.k [1,2] [false] [.tmp 11 false,.tmp 12 false] [1,2,10,11,12,13,14,32,33,35,36] ⟨trF h10,trF h17,trivial⟩)⟩
        ·refine .ifF (nt (ilt z31 (0 : Int))) (by kernel_rfl) h12 ?_
         refine .exit ?_
         exact ⟨(z28,z29,b8,n8,c9,n9,c13,z32,z33,z34,z35,q8,q9),hm,(.k [1,2] [false] [.tmp 11 false,.tmp 12 false] [1,2,10,11,12,32,33,35,36] ⟨trF h10,trF h11,trivial⟩)⟩
      ·refine .ifF (ilt z21 z20) (by kernel_rfl) h7 ?_
       refine .exit ?_
       exact ⟨(z16,z17,b5,n5,c5,z18,z19,q5),hm,(.k [2] [false] [.tmp 12 false] [1,2,10,12,32,33] ⟨trF h6,trivial⟩)⟩
   ·refine .ifF (ilt z7 z6) (by kernel_rfl) h2 ?_
    refine .exit ?_
    exact ⟨(z5,b2,n1,c1,q1),hm,(.k [1] [false] [.tmp 11 false] [2,10,11] ⟨trF h1,trivial⟩)⟩
 ·replace hm := bb_inv hm; obtain ⟨h18, hm⟩ := hm
  refine .reg (eC 2 (appFs (hT 2 [(oC [])]) 1 8 (sc 1 0 1 0 1) s0) (appFs_new h0 h18 (by kernel_rfl)) (eE)) ?_
  replace hm:=bb_inv hm;obtain ⟨h19,hm⟩:=hm
  refine .ghs (fr 103 [(1,zI z0),(2,zI z1),(9,zI z2),(10,zB b0),(11,(sc 1 0 1 (0 + (Sl.n s0)) (d2 (0 + (Sl.n s0)))))]) (hT 2 [(oC (takeL ((Sl.n s0) * 1) (Sl.cs s0)))]) (.k [2] [false] [.tmp 11 false] [1,2,9,10,11] ⟨trF h19,trivial⟩) ?_
  refine .join (v:=v) (fun y:Int×Bool×Nat×Nat×LV=>((fr 103 [(2,(zI y.1)),(10,(zB y.2.1)),(11,(sc 1 0 1 y.2.2.1 y.2.2.2.1))]),(hT 2 [(oC y.2.2.2.2)]))) (fun y=>m10_11 pu n y.1 y.2.1 y.2.2.1 y.2.2.2.1 y.2.2.2.2) ?_ ?_
  ·rintro ⟨z36, b9, n10, c26, q10⟩ hm
   exact w10_11 pu n z36 b9 n10 c26 q10 hm
  ·refine .then (.rK ?_)
   refine .ghs (fr 103 [(1,zI z0),(2,zI z1),(10,zB b0),(11,(sc 1 0 1 (0 + (Sl.n s0)) (d2 (0 + (Sl.n s0))))),(32,zI z2),(33,(zI (0:Int)))]) (hT 2 [(oC (takeL ((Sl.n s0) * 1) (Sl.cs s0)))]) (.k [1] [false] [.tmp 11 false] [1,2,10,11,32,33] ⟨trF h19,trivial⟩) ?_
   refine .block ?_
   refine .loopM (v:=v) (fun y:Int×Int×Bool×Nat×Nat×Int×Int×LV=>((fr 103 [(1,(zI y.1)),(2,(zI y.2.1)),(10,(zB y.2.2.1)),(11,(sc 1 0 1 y.2.2.2.1 y.2.2.2.2.1)),(32,(zI y.2.2.2.2.2.1)),(33,(zI y.2.2.2.2.2.2.1))]),(hT 2 [(oC y.2.2.2.2.2.2.2)]))) (fun w y=>l10_15 pu n w y.1 y.2.1 y.2.2.1 y.2.2.2.1 y.2.2.2.2.1 y.2.2.2.2.2.1 y.2.2.2.2.2.2.1 y.2.2.2.2.2.2.2) n ⟨(z0,z1,b0,(0 + (Sl.n s0)),(d2 (0 + (Sl.n s0))),z2,(0:Int),(takeL ((Sl.n s0) * 1) (Sl.cs s0))),hm,(.k [1] [false] [.tmp 11 false] [1,2,10,11,32,33] ⟨trF h19,trivial⟩)⟩ (fun _=>rfl) ?_
   rintro w0 ⟨z37,z38,b13,n11,c27,z39,z40,q11⟩ hm
   replace hm:b10_15 pu n (l10_15 pu n w0) z37 z38 b13 n11 c27 z39 z40 q11 = some v:=hm
   unfold b10_15 at hm
   refine .then (.rK ?_)
   replace hm:=bb_inv hm;obtain ⟨h20,hm⟩:=hm
   refine .ghs (fr 103 [(1,zI z37),(2,zI z38),(10,zB b13),(11,sc 1 0 1 n11 c27),(32,zI z39),(33,zI z40),(34,(zB (ilt z40 z39)))]) (hT 2 [oC q11]) (.k [1] [false] [.tmp 11 false] [1,2,10,11,32,33,34] ⟨trF h20,trivial⟩) ?_
   refine .then ?_
   replace hm:=bb_cases hm;rcases hm with ⟨h21,hm⟩ | ⟨h21,hm⟩
   ·refine .ifT (ilt z40 z39) (by kernel_rfl) h21 ?_
    refine .skip ?_
    refine .ghs (fr 103 [(1,zI z37),(2,zI z38),(10,zB b13),(11,sc 1 0 1 n11 c27),(32,zI z39),(33,zI z40)]) (hT 2 [oC q11]) (.k [1] [false] [.tmp 11 false] [1,2,10,11,32,33] ⟨trF h20,trivial⟩) ?_
    refine .join (v:=v) (fun y:Int×Int×Bool×Nat×Nat×Int×Int×LV=>((fr 103 [(1,(zI y.1)),(2,(zI y.2.1)),(10,(zB y.2.2.1)),(11,(sc 1 0 1 y.2.2.2.1 y.2.2.2.2.1)),(32,(zI y.2.2.2.2.2.1)),(33,(zI y.2.2.2.2.2.2.1))]),(hT 2 [(oC y.2.2.2.2.2.2.2)]))) (fun y=>m10_16 pu n (l10_15 pu n w0) y.1 y.2.1 y.2.2.1 y.2.2.2.1 y.2.2.2.2.1 y.2.2.2.2.2.1 y.2.2.2.2.2.2.1 y.2.2.2.2.2.2.2) ?_ ?_
    ·rintro ⟨z41, z42, b26, n12, c28, z43, z44, q12⟩ hm
     unfold m10_16 at hm
     refine .rK ?_
     replace hm:=bb_inv hm;obtain ⟨h22,hm⟩:=hm
     exact ⟨(z41,z42,b26,n12,c28,z43,(wrapF .i64 (Int.add z44 (1:Int))),q12),hm,(.k [1] [false] [.tmp 11 false] [1,2,10,11,32,33] ⟨trF h22,trivial⟩)⟩
    ·refine .block ?_
     refine .then (.rK ?_)
     refine .ghs (fr 103 [(1,zI z37),(2,zI z38),(10,zB b13),(11,sc 1 0 1 n11 c27),(12,(.slice none 0 0)),(32,zI z39),(33,zI z40)]) (hT 2 [oC q11]) (.k [1] [false] [.tmp 11 false] [1,2,10,11,12,32,33] ⟨trF h20,trivial⟩) ?_
     refine .join (v:=v) (fun y:Int×Int×Bool×Nat×Nat×Int×Int×LV=>((fr 103 [(1,(zI y.1)),(2,(zI y.2.1)),(10,(zB y.2.2.1)),(12,(sc 1 0 1 y.2.2.2.1 y.2.2.2.2.1)),(32,(zI y.2.2.2.2.2.1)),(33,(zI y.2.2.2.2.2.2.1))]),(hT 2 [(oC y.2.2.2.2.2.2.2)]))) (fun y=>m10_17 pu n (l10_15 pu n w0) y.1 y.2.1 y.2.2.1 y.2.2.2.1 y.2.2.2.2.1 y.2.2.2.2.2.1 y.2.2.2.2.2.2.1 y.2.2.2.2.2.2.2) ?_ ?_
     ·rintro ⟨z45, z46, b27, n13, c54, z47, z48, q13⟩ hm
      unfold m10_17 at hm
      refine .then (.rK ?_)
      replace hm:=bb_inv hm;obtain ⟨h23,hm⟩:=hm
      refine .ghs (fr 103 [(1,zI z45),(2,zI z46),(10,zB b27),(11,sc 1 0 1 n13 c54),(32,zI z47),(33,zI z48)]) (hT 2 [oC q13]) (.k [1] [false] [.tmp 11 false] [1,2,10,11,32,33] ⟨trF h23,trivial⟩) ?_
      refine .rK ?_
      exact ⟨(z46,z45,b27,n13,c54,z47,z48,q13),hm,(.k [1] [false] [.tmp 11 false] [1,2,10,11,32,33] ⟨trF h23,trivial⟩)⟩
     ·refine .then (.rK ?_)
      refine .ghs (fr 103 [(1,zI z37),(2,zI z38),(10,zB b13),(11,sc 1 0 1 n11 c27),(12,(.slice none 0 0)),(32,zI z39),(33,zI z40),(35,zI z38),(36,(zI (0:Int)))]) (hT 2 [oC q11]) (.k [1] [false] [.tmp 11 false] [1,2,10,11,12,32,33,35,36] ⟨trF h20,trivial⟩) ?_
      refine .block ?_
      refine .loopM (v:=v) (fun y:Int×Int×Bool×Nat×Nat×Nat×Nat×Int×Int×Int×Int×LV×LV=>((fr 103 [(1,(zI y.1)),(2,(zI y.2.1)),(10,(zB y.2.2.1)),(11,(sc 1 0 1 y.2.2.2.1 y.2.2.2.2.1)),(12,(sc 2 0 1 y.2.2.2.2.2.1 y.2.2.2.2.2.2.1)),(32,(zI y.2.2.2.2.2.2.2.1)),(33,(zI y.2.2.2.2.2.2.2.2.1)),(35,(zI y.2.2.2.2.2.2.2.2.2.1)),(36,(zI y.2.2.2.2.2.2.2.2.2.2.1))]),(hT 3 [(oC y.2.2.2.2.2.2.2.2.2.2.2.1),(oC y.2.2.2.2.2.2.2.2.2.2.2.2)]))) (fun w y=>l10_18 pu n (l10_15 pu n w0) w y.1 y.2.1 y.2.2.1 y.2.2.2.1 y.2.2.2.2.1 y.2.2.2.2.2.1 y.2.2.2.2.2.2.1 y.2.2.2.2.2.2.2.1 y.2.2.2.2.2.2.2.2.1 y.2.2.2.2.2.2.2.2.2.1 y.2.2.2.2.2.2.2.2.2.2.1 y.2.2.2.2.2.2.2.2.2.2.2.1 y.2.2.2.2.2.2.2.2.2.2.2.2) n ⟨(z37,z38,b13,n11,c27,0,0,z39,z40,z38,(0:Int),q11,([]:LV)),hm,(.thaw 12 1 (by kernel_rfl) (.k [1] [false] [.tmp 11 false,.tmp 12 false] [1,2,10,11,12,32,33,35,36] ⟨trF h20,trivial⟩))⟩ (fun _=>rfl) ?_
      rintro w1 ⟨z49,z50,b28,n14,c72,n15,c77,z51,z52,z53,z54,q14,q15⟩ hm
      replace hm:b10_18 pu n (l10_15 pu n w0) (l10_18 pu n (l10_15 pu n w0) w1) z49 z50 b28 n14 c72 n15 c77 z51 z52 z53 z54 q14 q15 = some v:=hm
      unfold b10_18 at hm
      refine .then (.rK ?_)
      replace hm:=bb_inv hm;obtain ⟨h24,hm⟩:=hm
      replace hm:=bb_inv hm;obtain ⟨h25,hm⟩:=hm
      refine .ghs (fr 103 [(1,zI z49),(2,zI z50),(10,zB b28),(11,sc 1 0 1 n14 c72),(12,sc 2 0 1 n15 c77),(32,zI z51),(33,zI z52),(35,zI z53),(36,zI z54),(37,(zB (ilt z54 z53)))]) (hT 3 [oC q14,oC q15]) (.k [1,2] [false] [.tmp 11 false,.tmp 12 false] [1,2,10,11,12,32,33,35,36,37] ⟨trF h24,trF h25,trivial⟩) ?_
      refine .then ?_
      replace hm:=bb_cases hm;rcases hm with ⟨h26,hm⟩ | ⟨h26,hm⟩
      ·refine .ifT (ilt z54 z53) (by kernel_rfl) h26 ?_
       refine .skip ?_
       refine .ghs (fr 103 [(1,zI z49),(2,zI z50),(10,zB b28),(11,sc 1 0 1 n14 c72),(12,sc 2 0 1 n15 c77),(32,zI z51),(33,zI z52),(35,zI z53),(36,zI z54)]) (hT 3 [oC q14,oC q15]) (.k [1,2] [false] [.tmp 11 false,.tmp 12 false] [1,2,10,11,12,32,33,35,36] ⟨trF h24,trF h25,trivial⟩) ?_
       refine .join (v:=v) (fun y:Int×Int×Bool×Nat×Nat×Nat×Nat×Int×Int×Int×Int×LV×LV=>((fr 103 [(1,(zI y.1)),(2,(zI y.2.1)),(10,(zB y.2.2.1)),(11,(sc 1 0 1 y.2.2.2.1 y.2.2.2.2.1)),(12,(sc 2 0 1 y.2.2.2.2.2.1 y.2.2.2.2.2.2.1)),(32,(zI y.2.2.2.2.2.2.2.1)),(33,(zI y.2.2.2.2.2.2.2.2.1)),(35,(zI y.2.2.2.2.2.2.2.2.2.1)),(36,(zI y.2.2.2.2.2.2.2.2.2.2.1))]),(hT 3 [(oC y.2.2.2.2.2.2.2.2.2.2.2.1),(oC y.2.2.2.2.2.2.2.2.2.2.2.2)]))) (fun y=>m10_19 pu n (l10_15 pu n w0) (l10_18 pu n (l10_15 pu n w0) w1) y.1 y.2.1 y.2.2.1 y.2.2.2.1 y.2.2.2.2.1 y.2.2.2.2.2.1 y.2.2.2.2.2.2.1 y.2.2.2.2.2.2.2.1 y.2.2.2.2.2.2.2.2.1 y.2.2.2.2.2.2.2.2.2.1 y.2.2.2.2.2.2.2.2.2.2.1 y.2.2.2.2.2.2.2.2.2.2.2.1 y.2.2.2.2.2.2.2.2.2.2.2.2) ?_ ?_
       ·rintro ⟨z55, z56, b54, n16, c97, n17, c106, z57, z58, z59, z60, q16, q17⟩ hm
        unfold m10_19 at hm
        refine .rK ?_
        replace hm:=bb_inv hm;obtain ⟨h27,hm⟩:=hm
        replace hm:=bb_inv hm;obtain ⟨h28,hm⟩:=hm
        exact ⟨(z55,z56,b54,n16,c97,n17,c106,z57,z58,z59,(wrapF .i64 (Int.add z60 (1:Int))),q16,q17),hm,(.k [1,2] [false] [.tmp 11 false,.tmp 12 false] [1,2,10,11,12,32,33,35,36] ⟨trF h27,trF h28,trivial⟩)⟩
       ·refine .block ?_
        refine .then (.rK ?_)
        refine .ghs (fr 103 [(1,zI z49),(2,zI z50),(10,zB b28),(11,sc 1 0 1 n14 c72),(12,sc 2 0 1 n15 c77),(13,zI z54),(32,zI z51),(33,zI z52),(35,zI z53),(36,zI z54)]) (hT 3 [oC q14,oC q15]) (.k [1,2] [false] [.tmp 11 false,.tmp 12 false] [1,2,10,11,12,13,32,33,35,36] ⟨trF h24,trF h25,trivial⟩) ?_
        refine .then (.rK ?_)
        refine .ghs (fr 103 [(1,zI z49),(2,zI z50),(10,zB b28),(11,sc 1 0 1 n14 c72),(12,sc 2 0 1 n15 c77),(13,zI z54),(14,(zI (wrapF .i64 (Int.sub z49 (1:Int))))),(32,zI z51),(33,zI z52),(35,zI z53),(36,zI z54)]) (hT 3 [oC q14,oC q15]) (.k [1,2] [false] [.tmp 11 false,.tmp 12 false] [1,2,10,11,12,13,14,32,33,35,36] ⟨trF h24,trF h25,trivial⟩) ?_
        refine .block ?_
        refine .loopM (v:=v) (fun y:Int×Int×Bool×Nat×Nat×Nat×Nat×Int×Int×Int×Int×Int×Int×LV×LV=>((fr 103 [(1,(zI y.1)),(2,(zI y.2.1)),(10,(zB y.2.2.1)),(11,(sc 1 0 1 y.2.2.2.1 y.2.2.2.2.1)),(12,(sc 2 0 1 y.2.2.2.2.2.1 y.2.2.2.2.2.2.1)),(13,(zI y.2.2.2.2.2.2.2.1)),(14,(zI y.2.2.2.2.2.2.2.2.1)),(32,(zI y.2.2.2.2.2.2.2.2.2.1)),(33,(zI y.2.2.2.2.2.2.2.2.2.2.1)),(35,(zI y.2.2.2.2.2.2.2.2.2.2.2.1)),(36,(zI y.2.2.2.2.2.2.2.2.2.2.2.2.1))]),(hT 3 [(oC y.2.2.2.2.2.2.2.2.2.2.2.2.2.1),(oC y.2.2.2.2.2.2.2.2.2.2.2.2.2.2)]))) (fun w y=>l10_20 pu n (l10_15 pu n w0) (l10_18 pu n (l10_15 pu n w0) w1) w y.1 y.2.1 y.2.2.1 y.2.2.2.1 y.2.2.2.2.1 y.2.2.2.2.2.1 y.2.2.2.2.2.2.1 y.2.2.2.2.2.2.2.1 y.2.2.2.2.2.2.2.2.1 y.2.2.2.2.2.2.2.2.2.1 y.2.2.2.2.2.2.2.2.2.2.1 y.2.2.2.2.2.2.2.2.2.2.2.1 y.2.2.2.2.2.2.2.2.2.2.2.2.1 y.2.2.2.2.2.2.2.2.2.2.2.2.2.1 y.2.2.2.2.2.2.2.2.2.2.2.2.2.2) n ⟨(z49,z50,b28,n14,c72,n15,c77,z54,(wrapF .i64 (Int.sub z49 (1:Int))),z51,z52,z53,z54,q14,q15),hm,(.k [1,2] [false] [.tmp 11 false,.tmp 12 false] [1,2,10,11,12,13,14,32,33,35,36] ⟨trF h24,trF h25,trivial⟩)⟩ (fun _=>rfl) ?_
        rintro w2 ⟨z61,z62,b72,n18,c109,n19,c110,z63,z64,z65,z66,z67,z68,q18,q19⟩ hm
        replace hm:b10_20 pu n (l10_15 pu n w0) (l10_18 pu n (l10_15 pu n w0) w1) (l10_20 pu n (l10_15 pu n w0) (l10_18 pu n (l10_15 pu n w0) w1) w2) z61 z62 b72 n18 c109 n19 c110 z63 z64 z65 z66 z67 z68 q18 q19 = some v:=hm
        unfold b10_20 at hm
        refine .then ?_
        refine .then (.rK ?_)
        replace hm:=bb_inv hm;obtain ⟨h29,hm⟩:=hm
        replace hm:=bb_inv hm;obtain ⟨h30,hm⟩:=hm
        refine .ghs (fr 103 [(1,zI z61),(2,zI z62),(10,zB b72),(11,sc 1 0 1 n18 c109),(12,sc 2 0 1 n19 c110),(13,zI z63),(14,zI z64),(32,zI z65),(33,zI z66),(35,zI z67),(36,zI z68),(42,(zB (nt (ilt z64 (0:Int)))))]) (hT 3 [oC q18,oC q19]) (.k [1,2] [false] [.tmp 11 false,.tmp 12 false] [1,2,10,11,12,13,14,32,33,35,36,42] ⟨trF h29,trF h30,trivial⟩) ?_
        replace hm:=bb_cases hm;rcases hm with ⟨h31,hm⟩ | ⟨h31,hm⟩
        ·refine .ifT (nt (ilt z64 (0 : Int))) (by kernel_rfl) h31 ?_
         refine .skip ?_
         refine .ghs (fr 103 [(1,zI z61),(2,zI z62),(10,zB b72),(11,sc 1 0 1 n18 c109),(12,sc 2 0 1 n19 c110),(13,zI z63),(14,zI z64),(32,zI z65),(33,zI z66),(35,zI z67),(36,zI z68)]) (hT 3 [oC q18,oC q19]) (.k [1,2] [false] [.tmp 11 false,.tmp 12 false] [1,2,10,11,12,13,14,32,33,35,36] ⟨trF h29,trF h30,trivial⟩) ?_
         refine .then ?_
         refine .block ?_
         replace hm:=oo_inv hm;obtain ⟨k2,h32,hm⟩:=hm
         replace hm:=bb_inv hm;obtain ⟨h33,hm⟩:=hm
         replace hm:=oo_inv hm;obtain ⟨v1,h34,hm⟩:=hm
         replace hm:=inv_toI hm;obtain ⟨x1,rfl,hm⟩:=hm
         replace hm:=bb_inv hm;obtain ⟨h35,hm⟩:=hm
         refine .reg (eC 6 (some ((zI (wrapF .i64 (Int.add (wrapF .i64 (Int.mul z64 z62)) z63))),(hT 3 [oC q18,oC q19]))) (show _ = some ((zI (Int.ofNat k2)),_) from (by rw [toN_some h32])) (eD (keep (hT 3 [oC q18,oC q19]) (bb (an (Nat.blt k2 n18) true) (some (.pointer (some ⟨1,(0 + k2 * 1),none⟩))) none)) (keep_bb h33) (eD (keep (hT 3 [oC q18,oC q19]) (nthL q18 (0 + k2 * 1))) (keep_eq h34) (eC 1 (growD 1 8 n19 c110 1 2 q19 [zI x1] [] (hT 4 [oC q18,oC q19,(oC [zI x1])])) (growD_eq h35) (eE))))) ?_
         replace hm:=bb_inv hm;obtain ⟨h36,hm⟩:=hm
         refine .ghs (fr 103 [(1,zI z61),(2,zI z62),(10,zB b72),(11,sc 1 0 1 n18 c109),(12,(sc 2 0 1 (n19 + 1) (d2 (n19 + 1)))),(13,zI z63),(14,zI z64),(32,zI z65),(33,zI z66),(35,zI z67),(36,zI z68)]) (hT 3 [oC q18,(oC (appL (dropL 0 q19) [zI x1]))]) (.k [1,4] [false] [.tmp 11 false,.tmp 12 false] [1,2,10,11,12,13,14,32,33,35,36] ⟨trF h29,trF h36,trivial⟩) ?_
         refine .rK ?_
         exact ⟨(z61,z62,b72,n18,c109,(n19 + 1),(d2 (n19 + 1)),z63,(wrapF .i64 (Int.sub z64 (1:Int))),z65,z66,z67,z68,q18,(appL (dropL 0 q19) [zI x1])),hm,(.k [1,2] [false] [.tmp 11 false,.tmp 12 false] [1,2,10,11,12,13,14,32,33,35,36] ⟨trF h29,trF h36,trivial⟩)⟩
        ·refine .ifF (nt (ilt z64 (0 : Int))) (by kernel_rfl) h31 ?_
         refine .exit ?_
         exact ⟨(z61,z62,b72,n18,c109,n19,c110,z65,z66,z67,z68,q18,q19),hm,(.k [1,2] [false] [.tmp 11 false,.tmp 12 false] [1,2,10,11,12,32,33,35,36] ⟨trF h29,trF h30,trivial⟩)⟩
      ·refine .ifF (ilt z54 z53) (by kernel_rfl) h26 ?_
       refine .exit ?_
       exact ⟨(z49,z50,b28,n15,c77,z51,z52,q15),hm,(.k [2] [false] [.tmp 12 false] [1,2,10,12,32,33] ⟨trF h25,trivial⟩)⟩
   ·refine .ifF (ilt z40 z39) (by kernel_rfl) h21 ?_
    refine .exit ?_
    exact ⟨(z38,b13,n11,c27,q11),hm,(.k [1] [false] [.tmp 11 false] [2,10,11] ⟨trF h20,trivial⟩)⟩
theorem r10 {call:CallF} (pu:PureF) (n:Nat) (hcall:call = callP tabs isP pu (inl pu)) {args:LV} {v:Value} (hm:m10 pu n args = some v) (_:∀ x ∈ args,closed2 x = true):args.length≤103∧Run tt call 1 c10_95 (Fr.made 103 args) (pureHeap tabs) (Fin tt 1 [.tmp 8] v):=by
 subst hcall
 unfold m10 at hm
 replace hm:=ll_uncons hm;obtain ⟨a0,args_0,rfl,hm⟩:=hm
 replace hm:=ll_uncons hm;obtain ⟨a1,args_1,rfl,hm⟩:=hm
 replace hm:=ll_uncons hm;obtain ⟨a2,args_2,rfl,hm⟩:=hm
 replace hm:=ll_uncons hm;obtain ⟨a3,args_3,rfl,hm⟩:=hm
 replace hm:=ll_end hm;obtain ⟨rfl,hm⟩:=hm
 replace hm:=inv_toSl hm;obtain ⟨s0,rfl,hm⟩:=hm
 replace hm:=inv_toI hm;obtain ⟨x0,rfl,hm⟩:=hm
 replace hm:=inv_toI hm;obtain ⟨x1,rfl,hm⟩:=hm
 replace hm:=inv_toI hm;obtain ⟨x2,rfl,hm⟩:=hm
 unfold m10_ at hm
 refine ⟨by simp,?_⟩
 refine .same (F':=(fr 103 [(0,Sl.v 1 s0),(1,zI x0),(2,zI x1),(3,zI x2)])) (H':=(hp 1 [(oT tab0)])) (by kernel_rfl) (by kernel_rfl) ?_
 refine .then (.rK ?_)
 refine .ghs (fr 103 [(0,Sl.v 1 s0),(1,zI x0),(2,zI x1),(3,zI x2)]) (hp 1 [(oT tab0)]) (.k0 [false] [] [0,1,2,3]) ?_
 refine .then (.rK ?_)
 refine .ghs (fr 103 [(0,Sl.v 1 s0),(1,zI x0),(2,zI x1),(3,zI x2),(9,zI x2),(10,zB false)]) (hp 1 [(oT tab0)]) (.k0 [false] [] [0,1,2,3,9,10]) ?_
 refine .join (v:=v) (fun y:Sl×Int×Int×Int×Bool=>((fr 103 [(0,(Sl.v 1 y.1)),(1,(zI y.2.1)),(2,(zI y.2.2.1)),(9,(zI y.2.2.2.1)),(10,(zB y.2.2.2.2))]),(hp 1 [(oT tab0)]))) (fun y=>m10_0 pu n y.1 y.2.1 y.2.2.1 y.2.2.2.1 y.2.2.2.2) ?_ ?_
 ·rintro ⟨s1, z0, z1, z2, b0⟩ hm
  exact w10_0 pu n s1 z0 z1 z2 b0 hm
 ·refine .then (.rK ?_)
  refine .ghs (fr 103 [(0,Sl.v 1 s0),(1,zI x0),(2,zI x1),(9,zI x2),(10,zB false),(20,zI x2)]) (hp 1 [(oT tab0)]) (.k0 [false] [] [0,1,2,9,10,20]) ?_
  refine .block ?_
  refine .then (.rK ?_)
  refine .ghs (fr 103 [(0,Sl.v 1 s0),(1,zI x0),(2,zI x1),(9,zI x2),(10,zB false),(20,zI x2),(21,(zB (ieq x2 (4:Int))))]) (hp 1 [(oT tab0)]) (.k0 [false] [] [0,1,2,9,10,20,21]) ?_
  replace hm:=bb_cases hm;rcases hm with ⟨h0,hm⟩ | ⟨h0,hm⟩
  ·refine .ifT (ieq x2 (4 : Int)) (by kernel_rfl) h0 ?_
   refine .rK ?_
   exact ⟨(s0,x0,x1,(0:Int),true),hm,(.k0 [false] [] [0,1,2,9,10])⟩
  ·refine .ifF (ieq x2 (4 : Int)) (by kernel_rfl) h0 ?_
   refine .then (.rK ?_)
   refine .ghs (fr 103 [(0,Sl.v 1 s0),(1,zI x0),(2,zI x1),(9,zI x2),(10,zB false),(20,zI x2),(23,(zB (ieq x2 (5:Int))))]) (hp 1 [(oT tab0)]) (.k0 [false] [] [0,1,2,9,10,20,23]) ?_
   replace hm:=bb_cases hm;rcases hm with ⟨h1,hm⟩ | ⟨h1,hm⟩
   ·refine .ifT (ieq x2 (5 : Int)) (by kernel_rfl) h1 ?_
    refine .rK ?_
    exact ⟨(s0,x0,x1,(2:Int),true),hm,(.k0 [false] [] [0,1,2,9,10])⟩
   ·refine .ifF (ieq x2 (5 : Int)) (by kernel_rfl) h1 ?_
    refine .then (.rK ?_)
    refine .ghs (fr 103 [(0,Sl.v 1 s0),(1,zI x0),(2,zI x1),(9,zI x2),(10,zB false),(20,zI x2),(25,(zB (ieq x2 (6:Int))))]) (hp 1 [(oT tab0)]) (.k0 [false] [] [0,1,2,9,10,20,25]) ?_
    replace hm:=bb_cases hm;rcases hm with ⟨h2,hm⟩ | ⟨h2,hm⟩
    ·refine .ifT (ieq x2 (6 : Int)) (by kernel_rfl) h2 ?_
     refine .rK ?_
     exact ⟨(s0,x0,x1,(1:Int),true),hm,(.k0 [false] [] [0,1,2,9,10])⟩
    ·refine .ifF (ieq x2 (6 : Int)) (by kernel_rfl) h2 ?_
     refine .then (.rK ?_)
     refine .ghs (fr 103 [(0,Sl.v 1 s0),(1,zI x0),(2,zI x1),(9,zI x2),(10,zB false),(27,(zB (ieq x2 (7:Int))))]) (hp 1 [(oT tab0)]) (.k0 [false] [] [0,1,2,9,10,27]) ?_
     replace hm:=bb_cases hm;rcases hm with ⟨h3,hm⟩ | ⟨h3,hm⟩
     ·refine .ifT (ieq x2 (7 : Int)) (by kernel_rfl) h3 ?_
      refine .rK ?_
      exact ⟨(s0,x0,x1,(3:Int),true),hm,(.k0 [false] [] [0,1,2,9,10])⟩
     ·refine .ifF (ieq x2 (7 : Int)) (by kernel_rfl) h3 ?_
      refine .skip ?_
      exact ⟨(s0,x0,x1,x2,false),hm,(.k0 [false] [] [0,1,2,9,10])⟩
end
end Go.BkPM
