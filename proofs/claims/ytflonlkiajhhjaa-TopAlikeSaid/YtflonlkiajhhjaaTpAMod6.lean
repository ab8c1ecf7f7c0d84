/- Made from wip. -/
import Derived.Test.YtflonlkiajhhjaaTpAMod1x

set_option maxRecDepth 100000
set_option maxHeartbeats 20000000
set_option linter.unusedVariables false
namespace Go.TpAM
open Go.Sp Go.TpA
noncomputable section
def Jf (pu:Af) (n:Nat) (e0:List EO) (k1:Nat):OV:=
 (bb (Au F4 e0) (some (.tuple ⟨[(.bool false),(Ef (.map e0 k1))]⟩)) none)
def M8 (pu:Af) (n:Nat) (ih0:Int→Int→List EO→Nat→Int→Int→Int→Int→OV) (z0 z1:Int) (e0:List EO) (k1:Nat) (z2 z3 z4 z5:Int):OV:=
 (bb (Au F4 e0) (ih0 z0 (Aj .i64 (Int.sub z1 (1:Int))) e0 k1 z2 z3 z4 z5) none)
def M9 (pu:Af) (n:Nat) (ih0:Int→Int→List EO→Nat→Int→Int→Int→Int→OV) (ih1:Int→Int→Int→List EO→Nat→Int→Int→Int→Int→OV) (z0 z1 z2:Int) (e0:List EO) (k1:Nat) (z3 z4 z5 z6:Int):OV:=
 (bb (Au F4 e0) (ih1 z0 z1 (Aj .i64 (Int.add z2 (1:Int))) e0 k1 z3 z4 z5 z6) none)
def Nc (pu:Af) (n:Nat) (ih0:Int→Int→List EO→Nat→Int→Int→Int→Int→OV) (ih1:Int→Int→Int→List EO→Nat→Int→Int→Int→Int→OV) (ih2:Int→Int→Int→Int→Int→List EO→Nat→Int→Int→Int→Int→OV) (z0 z1 z2 z3 z4:Int) (e0:List EO) (k1:Nat) (z5 z6 z7 z8:Int):OV:=
 (bb (Au F4 e0) (ih2 z0 z1 z2 z3 (Aj .i64 (Int.add z4 (1:Int))) e0 k1 z5 z6 z7 z8) none)
def Nf (pu:Af) (n:Nat) (ih0:Int→Int→List EO→Nat→Int→Int→Int→Int→OV) (ih1:Int→Int→Int→List EO→Nat→Int→Int→Int→Int→OV) (ih2:Int→Int→Int→Int→Int→List EO→Nat→Int→Int→Int→Int→OV) (ih3:Int→Int→Int→Int→Int→Int→List EO→Nat→Int→Int→Int→Int→OV) (z0 z1 z2 z3 z4 z5:Int) (e0:List EO) (k1:Nat) (z6 z7 z8 z9:Int):OV:=
 (bb (Au F4 e0) (ih3 z0 z1 z2 z3 z4 (Aj .i64 (Int.add z5 (1:Int))) e0 k1 z6 z7 z8 z9) none)
def Kb (pu:Af) (n:Nat) (ih0:Int→Int→List EO→Nat→Int→Int→Int→Int→OV) (ih1:Int→Int→Int→List EO→Nat→Int→Int→Int→Int→OV) (ih2:Int→Int→Int→Int→Int→List EO→Nat→Int→Int→Int→Int→OV) (ih3:Int→Int→Int→Int→Int→Int→List EO→Nat→Int→Int→Int→Int→OV) (ih4:Int→Int→Int→Int→Int→Int→Int→List EO→Nat→Int→Int→Int→Int→OV) (z0 z1 z2 z3 z4 z5 z6:Int) (e0:List EO) (k1:Nat) (z7 z8 z9 z10:Int):OV:=
 (bb (Au F4 e0) (ih4 z0 z1 z2 z3 z4 z5 (Aj .i64 (Int.add z6 (1:Int))) e0 k1 z7 z8 z9 z10) none)
def Iq (pu:Af) (n:Nat) (ih0:Int→Int→List EO→Nat→Int→Int→Int→Int→OV) (ih1:Int→Int→Int→List EO→Nat→Int→Int→Int→Int→OV) (ih2:Int→Int→Int→Int→Int→List EO→Nat→Int→Int→Int→Int→OV) (ih3:Int→Int→Int→Int→Int→Int→List EO→Nat→Int→Int→Int→Int→OV) (ih4:Int→Int→Int→Int→Int→Int→Int→List EO→Nat→Int→Int→Int→Int→OV) (ih5:Int→Int→Int→Int→Int→Int→Int→Int→List EO→Nat→Int→Int→Int→Int→OV) (z0 z1 z2 z3 z4 z5 z6 z7:Int) (e0:List EO) (k1:Nat) (z8 z9 z10 z11:Int):OV:=
 (bb (Au F4 e0) (ih5 z0 z1 z2 z3 z4 z5 z6 (Aj .i64 (Int.add z7 (1:Int))) e0 k1 z8 z9 z10 z11) none)
def G9 (pu:Af) (n:Nat) (ih0:Int→Int→List EO→Nat→Int→Int→Int→Int→OV) (ih1:Int→Int→Int→List EO→Nat→Int→Int→Int→Int→OV) (ih2:Int→Int→Int→Int→Int→List EO→Nat→Int→Int→Int→Int→OV) (ih3:Int→Int→Int→Int→Int→Int→List EO→Nat→Int→Int→Int→Int→OV) (ih4:Int→Int→Int→Int→Int→Int→Int→List EO→Nat→Int→Int→Int→Int→OV) (ih5:Int→Int→Int→Int→Int→Int→Int→Int→List EO→Nat→Int→Int→Int→Int→OV) (z0 z1 z2 z3 z4 z5 z6 z7:Int) (b0:Bool) (e0:List EO) (k1:Nat) (z8 z9 z10 z11:Int):OV:=
 (bb b0 (bb (Au F4 e0) (some (.tuple ⟨[(.bool true),(Ef (.map e0 k1))]⟩)) none) (bb (Au F4 e0) (Iq pu n ih0 ih1 ih2 ih3 ih4 ih5 z0 z1 z2 z3 z4 z5 z6 z7 e0 k1 z8 z9 z10 z11) none))
def Ir (pu:Af) (n:Nat) (ih0:Int→Int→List EO→Nat→Int→Int→Int→Int→OV) (ih1:Int→Int→Int→List EO→Nat→Int→Int→Int→Int→OV) (ih2:Int→Int→Int→Int→Int→List EO→Nat→Int→Int→Int→Int→OV) (ih3:Int→Int→Int→Int→Int→Int→List EO→Nat→Int→Int→Int→Int→OV) (ih4:Int→Int→Int→Int→Int→Int→Int→List EO→Nat→Int→Int→Int→Int→OV) (ih5:Int→Int→Int→Int→Int→Int→Int→Int→List EO→Nat→Int→Int→Int→Int→OV) (z0 z1 z2 z3 z4 z5 z6 z7:Int) (b0:Bool) (e0:List EO) (k1:Nat) (z8 z9 z10 z11:Int):OV:=
 (bb b0 (bb (Au F4 e0) (Iq pu n ih0 ih1 ih2 ih3 ih4 ih5 z0 z1 z2 z3 z4 z5 z6 z7 e0 k1 z8 z9 z10 z11) none) (bb (Au F4 e0) (oo (pu 97 [(.agg ⟨[.int .i64 z8,.int .i64 z9,.int .i64 z10,.int .i64 z11]⟩),(.int .i64 (Aj .i64 (Int.sub (Aj .i64 (Int.sub z8 z4)) z5))),(.int .i64 (Aj .i64 (Int.sub (Aj .i64 (Int.sub z9 z6)) z7))),.int .i64 z1]) none fun v0=>(oo (Bt v0) none fun l0=>(ll l0 none fun v1 l0=>(ll l0 none fun v2 l0=>(ll l0 none fun v3 l0=>(ll l0 none fun v4 l0=>(ll l0 (oo (Bi .i64 v1) none fun x0=>(oo (Bi .i64 v2) none fun x1=>(oo (Bi .i64 v3) none fun x2=>(oo (Bi .i64 v4) none fun x3=>(bb (Au F4 e0) (oo (pu 10510 [(.map (some 0)),(.agg ⟨[.int .i64 x0,.int .i64 x1,.int .i64 x2,.int .i64 x3]⟩),(.int .i64 (Aj .i64 (Int.sub z0 (1:Int)))),(Ef (.map e0 k1))]) none fun v5=>(oo (CQ v5) none fun l1=>(ll l1 none fun v6 l1=>(ll l1 none fun v7 l1=>(ll l1 (oo (Bf v6) none fun b1=>(oo (Fj v7) none fun y0=>(bb (Au F4 (Akd.es y0)) (bb b1 (oo (pu 97 [(.agg ⟨[.int .i64 z8,.int .i64 z9,.int .i64 z10,.int .i64 z11]⟩),(.int .i64 (Aj .i64 (Int.add z4 z2))),(.int .i64 (Aj .i64 (Int.add z7 z3))),(.int .i64 (0:Int))]) none fun v8=>(oo (Bt v8) none fun l2=>(ll l2 none fun v9 l2=>(ll l2 none fun v10 l2=>(ll l2 none fun v11 l2=>(ll l2 none fun v12 l2=>(ll l2 (oo (Bi .i64 v9) none fun x4=>(oo (Bi .i64 v10) none fun x5=>(oo (Bi .i64 v11) none fun x6=>(oo (Bi .i64 v12) none fun x7=>(bb (Au F4 (Akd.es y0)) (oo (pu 10510 [(.map (some 0)),(.agg ⟨[.int .i64 x4,.int .i64 x5,.int .i64 x6,.int .i64 x7]⟩),(.int .i64 (Aj .i64 (Int.sub z0 (1:Int)))),(Ef (.map (Akd.es y0) (Akd.clock y0)))]) none fun v13=>(oo (CQ v13) none fun l3=>(ll l3 none fun v14 l3=>(ll l3 none fun v15 l3=>(ll l3 (oo (Bf v14) none fun b2=>(oo (Fj v15) none fun y1=>(bb (Au F4 (Akd.es y1)) (bb b2 (oo (pu 97 [(.agg ⟨[.int .i64 z8,.int .i64 z9,.int .i64 z10,.int .i64 z11]⟩),(.int .i64 (Aj .i64 (Int.add z5 z3))),(.int .i64 (Aj .i64 (Int.add z6 z2))),(.int .i64 (0:Int))]) none fun v16=>(oo (Bt v16) none fun l4=>(ll l4 none fun v17 l4=>(ll l4 none fun v18 l4=>(ll l4 none fun v19 l4=>(ll l4 none fun v20 l4=>(ll l4 (oo (Bi .i64 v17) none fun x8=>(oo (Bi .i64 v18) none fun x9=>(oo (Bi .i64 v19) none fun x10=>(oo (Bi .i64 v20) none fun x11=>(bb (Au F4 (Akd.es y1)) (oo (pu 10510 [(.map (some 0)),(.agg ⟨[.int .i64 x8,.int .i64 x9,.int .i64 x10,.int .i64 x11]⟩),(.int .i64 (Aj .i64 (Int.sub z0 (1:Int)))),(Ef (.map (Akd.es y1) (Akd.clock y1)))]) none fun v21=>(oo (CQ v21) none fun l5=>(ll l5 none fun v22 l5=>(ll l5 none fun v23 l5=>(ll l5 (oo (Bf v22) none fun b4=>(oo (Fj v23) none fun y2=>(bb (Au F4 (Akd.es y2)) (bb (Au F4 (Akd.es y2)) (G9 pu n ih0 ih1 ih2 ih3 ih4 ih5 z0 z1 z2 z3 z4 z5 z6 z7 b4 (Akd.es y2) (Akd.clock y2) z8 z9 z10 z11) none) none))) fun _ _=>none))))) none))))) fun _ _=>none))))))) (bb (Au F4 (Akd.es y1)) (G9 pu n ih0 ih1 ih2 ih3 ih4 ih5 z0 z1 z2 z3 z4 z5 z6 z7 false (Akd.es y1) (Akd.clock y1) z8 z9 z10 z11) none)) none))) fun _ _=>none))))) none))))) fun _ _=>none))))))) (bb (Au F4 (Akd.es y0)) (G9 pu n ih0 ih1 ih2 ih3 ih4 ih5 z0 z1 z2 z3 z4 z5 z6 z7 false (Akd.es y0) (Akd.clock y0) z8 z9 z10 z11) none)) none))) fun _ _=>none))))) none))))) fun _ _=>none))))))) none))
def Kc (pu:Af) (n:Nat) (ih0:Int→Int→List EO→Nat→Int→Int→Int→Int→OV) (ih1:Int→Int→Int→List EO→Nat→Int→Int→Int→Int→OV) (ih2:Int→Int→Int→Int→Int→List EO→Nat→Int→Int→Int→Int→OV) (ih3:Int→Int→Int→Int→Int→Int→List EO→Nat→Int→Int→Int→Int→OV) (ih4:Int→Int→Int→Int→Int→Int→Int→List EO→Nat→Int→Int→Int→Int→OV) (ih5:Int→Int→Int→Int→Int→Int→Int→Int→List EO→Nat→Int→Int→Int→Int→OV) (z0 z1 z2 z3 z4 z5 z6 z7:Int) (e0:List EO) (k1:Nat) (z8 z9 z10 z11:Int):OV:=
 (bb (Au F4 e0) (bb (nt (AY (Aj .i64 (Int.sub z9 z6)) z7)) (bb (Bd (bb (AY (Aj .i64 (Int.add (Aj .i64 (Int.add z2 z4)) z6)) (Aj .i64 (Int.add (Aj .i64 (Int.add z3 z5)) z7))) (Aj .i64 (Int.add (Aj .i64 (Int.add z3 z5)) z7)) (Aj .i64 (Int.add (Aj .i64 (Int.add z2 z4)) z6))) (0:Int)) (Ir pu n ih0 ih1 ih2 ih3 ih4 ih5 z0 z1 z2 z3 z4 z5 z6 z7 true e0 k1 z8 z9 z10 z11) (Ir pu n ih0 ih1 ih2 ih3 ih4 ih5 z0 z1 z2 z3 z4 z5 z6 z7 (AY z11 (bb (AY (Aj .i64 (Int.sub (Aj .i64 (Int.add (Aj .i64 (Int.add z2 z4)) z6)) (Aj .i64 (Int.add (Aj .i64 (Int.add z3 z5)) z7)))) (Aj .i64 (Int.sub (Aj .i64 (Int.add (Aj .i64 (Int.add z3 z5)) z7)) (Aj .i64 (Int.add (Aj .i64 (Int.add z2 z4)) z6))))) (Aj .i64 (Int.sub (Aj .i64 (Int.add (Aj .i64 (Int.add z3 z5)) z7)) (Aj .i64 (Int.add (Aj .i64 (Int.add z2 z4)) z6)))) (Aj .i64 (Int.sub (Aj .i64 (Int.add (Aj .i64 (Int.add z2 z4)) z6)) (Aj .i64 (Int.add (Aj .i64 (Int.add z3 z5)) z7)))))) e0 k1 z8 z9 z10 z11)) (Kb pu n ih0 ih1 ih2 ih3 ih4 z0 z1 z2 z3 z4 z5 z6 e0 k1 z8 z9 z10 z11)) none)
def Gy (pu:Af) (n:Nat) (ih0:Int→Int→List EO→Nat→Int→Int→Int→Int→OV) (ih1:Int→Int→Int→List EO→Nat→Int→Int→Int→Int→OV) (ih2:Int→Int→Int→Int→Int→List EO→Nat→Int→Int→Int→Int→OV) (ih3:Int→Int→Int→Int→Int→Int→List EO→Nat→Int→Int→Int→Int→OV) (ih4:Int→Int→Int→Int→Int→Int→Int→List EO→Nat→Int→Int→Int→Int→OV) (w:Nat):Int→Int→Int→Int→Int→Int→Int→Int→List EO→Nat→Int→Int→Int→Int→OV:=
 Nat.rec (motive:=fun _=>Int→Int→Int→Int→Int→Int→Int→Int→List EO→Nat→Int→Int→Int→Int→OV) (fun _ _ _ _ _ _ _ _ _ _ _ _ _ _=>none) (fun _ ih5=>Kc pu n ih0 ih1 ih2 ih3 ih4 ih5) w
def Ng (pu:Af) (n:Nat) (ih0:Int→Int→List EO→Nat→Int→Int→Int→Int→OV) (ih1:Int→Int→Int→List EO→Nat→Int→Int→Int→Int→OV) (ih2:Int→Int→Int→Int→Int→List EO→Nat→Int→Int→Int→Int→OV) (ih3:Int→Int→Int→Int→Int→Int→List EO→Nat→Int→Int→Int→Int→OV) (ih4:Int→Int→Int→Int→Int→Int→Int→List EO→Nat→Int→Int→Int→Int→OV) (z0 z1 z2 z3 z4 z5 z6:Int) (e0:List EO) (k1:Nat) (z7 z8 z9 z10:Int):OV:=
 (bb (Au F4 e0) (bb (nt (AY z8 z6)) (Gy pu n ih0 ih1 ih2 ih3 ih4 n z0 z1 z2 z3 z4 z5 z6 (0:Int) e0 k1 z7 z8 z9 z10) (Nf pu n ih0 ih1 ih2 ih3 z0 z1 z2 z3 z4 z5 e0 k1 z7 z8 z9 z10)) none)
def FN (pu:Af) (n:Nat) (ih0:Int→Int→List EO→Nat→Int→Int→Int→Int→OV) (ih1:Int→Int→Int→List EO→Nat→Int→Int→Int→Int→OV) (ih2:Int→Int→Int→Int→Int→List EO→Nat→Int→Int→Int→Int→OV) (ih3:Int→Int→Int→Int→Int→Int→List EO→Nat→Int→Int→Int→Int→OV) (w:Nat):Int→Int→Int→Int→Int→Int→Int→List EO→Nat→Int→Int→Int→Int→OV:=
 Nat.rec (motive:=fun _=>Int→Int→Int→Int→Int→Int→Int→List EO→Nat→Int→Int→Int→Int→OV) (fun _ _ _ _ _ _ _ _ _ _ _ _ _=>none) (fun _ ih4=>Ng pu n ih0 ih1 ih2 ih3 ih4) w
def Nh (pu:Af) (n:Nat) (ih0:Int→Int→List EO→Nat→Int→Int→Int→Int→OV) (ih1:Int→Int→Int→List EO→Nat→Int→Int→Int→Int→OV) (ih2:Int→Int→Int→Int→Int→List EO→Nat→Int→Int→Int→Int→OV) (ih3:Int→Int→Int→Int→Int→Int→List EO→Nat→Int→Int→Int→Int→OV) (z0 z1 z2 z3 z4 z5:Int) (e0:List EO) (k1:Nat) (z6 z7 z8 z9:Int):OV:=
 (bb (Au F4 e0) (bb (nt (AY (Aj .i64 (Int.sub z6 z4)) z5)) (FN pu n ih0 ih1 ih2 ih3 n z0 z1 z2 z3 z4 z5 (0:Int) e0 k1 z6 z7 z8 z9) (Nc pu n ih0 ih1 ih2 z0 z1 z2 z3 z4 e0 k1 z6 z7 z8 z9)) none)
def Co (pu:Af) (n:Nat) (ih0:Int→Int→List EO→Nat→Int→Int→Int→Int→OV) (ih1:Int→Int→Int→List EO→Nat→Int→Int→Int→Int→OV) (ih2:Int→Int→Int→Int→Int→List EO→Nat→Int→Int→Int→Int→OV) (w:Nat):Int→Int→Int→Int→Int→Int→List EO→Nat→Int→Int→Int→Int→OV:=
 Nat.rec (motive:=fun _=>Int→Int→Int→Int→Int→Int→List EO→Nat→Int→Int→Int→Int→OV) (fun _ _ _ _ _ _ _ _ _ _ _ _=>none) (fun _ ih3=>Nh pu n ih0 ih1 ih2 ih3) w
def Ni (pu:Af) (n:Nat) (ih0:Int→Int→List EO→Nat→Int→Int→Int→Int→OV) (ih1:Int→Int→Int→List EO→Nat→Int→Int→Int→Int→OV) (ih2:Int→Int→Int→Int→Int→List EO→Nat→Int→Int→Int→Int→OV) (z0 z1 z2 z3 z4:Int) (e0:List EO) (k1:Nat) (z5 z6 z7 z8:Int):OV:=
 (bb (Au F4 e0) (bb (nt (AY z5 z4)) (Co pu n ih0 ih1 ih2 n z0 z1 z2 z3 z4 (0:Int) e0 k1 z5 z6 z7 z8) (M9 pu n ih0 ih1 z0 z1 z2 e0 k1 z5 z6 z7 z8)) none)
def A7 (pu:Af) (n:Nat) (ih0:Int→Int→List EO→Nat→Int→Int→Int→Int→OV) (ih1:Int→Int→Int→List EO→Nat→Int→Int→Int→Int→OV) (w:Nat):Int→Int→Int→Int→Int→List EO→Nat→Int→Int→Int→Int→OV:=
 Nat.rec (motive:=fun _=>Int→Int→Int→Int→Int→List EO→Nat→Int→Int→Int→Int→OV) (fun _ _ _ _ _ _ _ _ _ _ _=>none) (fun _ ih2=>Ni pu n ih0 ih1 ih2) w
def Oi (pu:Af) (n:Nat) (ih0:Int→Int→List EO→Nat→Int→Int→Int→Int→OV) (ih1:Int→Int→Int→List EO→Nat→Int→Int→Int→Int→OV) (z0 z1 z2:Int) (e0:List EO) (k1:Nat) (z3 z4 z5 z6:Int):OV:=
 (bb (Au F4 e0) (bb (nt (AY (Aj .i64 (Int.sub z5 z1)) z2)) (A7 pu n ih0 ih1 n z0 z1 z2 (Aj .i64 (Int.sub (Aj .i64 (Int.sub z5 z1)) z2)) (0:Int) e0 k1 z3 z4 z5 z6) (M8 pu n ih0 z0 z1 e0 k1 z3 z4 z5 z6)) none)
def AO (pu:Af) (n:Nat) (ih0:Int→Int→List EO→Nat→Int→Int→Int→Int→OV) (w:Nat):Int→Int→Int→List EO→Nat→Int→Int→Int→Int→OV:=
 Nat.rec (motive:=fun _=>Int→Int→Int→List EO→Nat→Int→Int→Int→Int→OV) (fun _ _ _ _ _ _ _ _ _=>none) (fun _ ih1=>Oi pu n ih0 ih1) w
def Ov (pu:Af) (n:Nat) (ih0:Int→Int→List EO→Nat→Int→Int→Int→Int→OV) (z0 z1:Int) (e0:List EO) (k1:Nat) (z2 z3 z4 z5:Int):OV:=
 (bb (Au F4 e0) (bb (nt (AY z1 (0:Int))) (AO pu n ih0 n z0 z1 (0:Int) e0 k1 z2 z3 z4 z5) (Jf pu n e0 k1)) none)
def Ay (pu:Af) (n w:Nat):Int→Int→List EO→Nat→Int→Int→Int→Int→OV:=
 Nat.rec (motive:=fun _=>Int→Int→List EO→Nat→Int→Int→Int→Int→OV) (fun _ _ _ _ _ _ _ _=>none) (fun _ ih0=>Ov pu n ih0) w
def KV (pu:Af) (n:Nat) (z0 z1 z2 z3 z4:Int) (e0:List EO) (k1:Nat):OV:=
 (bb (Au F4 e0) (Ay pu n n z4 z2 e0 k1 z0 z1 z2 z3) none)
def Ow (pu:Af) (n:Nat) (args:LV):OV:=
 (ll args none fun a0 args=>(ll args none fun a1 args=>(ll args none fun a2 args=>(ll args none fun o0 args=>(ll args (bb (O5 a0 0) (oo (Bt a1) none fun l0=>(ll l0 none fun v0 l0=>(ll l0 none fun v1 l0=>(ll l0 none fun v2 l0=>(ll l0 none fun v3 l0=>(ll l0 (oo (Bi .i64 v0) none fun x0=>(oo (Bi .i64 v1) none fun x1=>(oo (Bi .i64 v2) none fun x2=>(oo (Bi .i64 v3) none fun x3=>(oo (Bi .i64 a2) none fun x4=>(oo (Fj o0) none fun y0=>(KV pu n x0 x1 x2 x3 x4 (Akd.es y0) (Akd.clock y0)))))))) fun _ _=>none)))))) none) fun _ _=>none)))))
theorem WK (pu:Af) (n:Nat) (e0:List EO) (k1:Nat) {v:Value} (hm:Jf pu n e0 k1=some v):BN tt (Bb tabs isP pu (inl pu)) 1 UW (fr 137 []) (hp 1 [(.map e0 k1)]) (FJ tt 0 1 [.tmp 6] v):=by
 unfold Jf at hm
 refine .then (.rK ?_)
 replace hm:=Ae hm;obtain⟨h0,hm⟩:=hm
 refine .ghs (fr 137 [(6,zB false)]) (hp 1 [(.map e0 k1)]) (.k [0] [false] [] [6] ⟨BB h0,trivial⟩) ?_
 refine .ghs (fr 137 [(6,zB false)]) (hp 1 [(.map e0 k1)]) (.k [0] [false] [] [6] ⟨BB h0,trivial⟩) ?_
 refine .ret ?_
 exact Eo (zB false) [(.map e0 k1)] (by kernel_rfl) hm (Nat.le_of_ble_eq_true rfl) (Dr (PP _ _) DL)
theorem tX (pu:Af) (n:Nat) (z0 z1 z2 z3 z4:Int) (e0:List EO) (k1:Nat) {v:Value} (hm:KV pu n z0 z1 z2 z3 z4 e0 k1=some v):BN tt (Bb tabs isP pu (inl pu)) 1 LK (fr 137 [(0,(.map (some 0))),(1,(.agg ⟨[zI z0,zI z1,zI z2,zI z3]⟩)),(2,zI z4)]) (hp 1 [(.map e0 k1)]) (FJ tt 0 1 [.tmp 6] v):=by
 unfold KV at hm
 refine .then (.rK ?_)
 replace hm:=Ae hm;obtain⟨h0,hm⟩:=hm
 refine .ghs (fr 137 [(0,(.map (some 0))),(2,zI z4),(4,pt 1 0)]) (hp 2 [(.map e0 k1),(oC [zI z0,zI z1,zI z2,zI z3])]) (.k [0] [false] [.tmp 4 false] [0,2,4] ⟨BB h0,trivial⟩) ?_
 refine .join (v:=v) (fun y:List EO×Nat=>((fr 137 []),(hp 1 [(.map y.1 y.2)]))) (fun y=>Jf pu n y.1 y.2) ?_ ?_
 ·rintro⟨e1,k2⟩ hm
  exact WK pu n e1 k2 hm
 ·refine .then (.rK (.ghs (fr 137 [(0,(.map (some 0))),(2,zI z4),(4,pt 1 0),(7,zI z2)]) (hp 2 [(.map e0 k1),(oC [zI z0,zI z1,zI z2,zI z3])]) (.k [0] [false] [.tmp 4 false] [0,2,4,7] ⟨BB h0,trivial⟩) ?_))
  refine .block (.loopM (v:=v) (fun y:Int×Int×List EO×Nat×Int×Int×Int×Int=>((fr 137 [(0,(.map (some 0))),(2,(zI y.1)),(4,pt 1 0),(7,(zI y.2.1))]),(hp 2 [(.map y.2.2.1 y.2.2.2.1),(oC [(zI y.2.2.2.2.1),(zI y.2.2.2.2.2.1),(zI y.2.2.2.2.2.2.1),(zI y.2.2.2.2.2.2.2)])]))) (fun w y=>Ay pu n w y.1 y.2.1 y.2.2.1 y.2.2.2.1 y.2.2.2.2.1 y.2.2.2.2.2.1 y.2.2.2.2.2.2.1 y.2.2.2.2.2.2.2) n ⟨(z4,z2,e0,k1,z0,z1,z2,z3),hm,(.k [0] [false] [.tmp 4 false] [0,2,4,7] ⟨BB h0,trivial⟩)⟩ (fun _=>rfl) ?_)
  rintro w0 ⟨z5,z6,e2,k3,z7,z8,z9,z10⟩ hm
  replace hm:Ov pu n (Ay pu n w0) z5 z6 e2 k3 z7 z8 z9 z10=some v:=hm
  unfold Ov at hm
  refine .then (.then (.rK ?_))
  replace hm:=Ae hm;obtain⟨h1,hm⟩:=hm
  refine .ghs (fr 137 [(0,(.map (some 0))),(2,zI z5),(4,pt 1 0),(7,zI z6),(19,(zB (nt (AY z6 (0:Int)))))]) (hp 2 [(.map e2 k3),(oC [zI z7,zI z8,zI z9,zI z10])]) (.k [0] [false] [.tmp 4 false] [0,2,4,7,19] ⟨BB h1,trivial⟩) ?_
  replace hm:=Ag hm;rcases hm with⟨h2,hm⟩ | ⟨h2,hm⟩
  ·refine Cs (nt (AY z6 (0:Int))) h2 ?_
   refine .skip (.ghs (fr 137 [(0,(.map (some 0))),(2,zI z5),(4,pt 1 0),(7,zI z6)]) (hp 2 [(.map e2 k3),(oC [zI z7,zI z8,zI z9,zI z10])]) (.k [0] [false] [.tmp 4 false] [0,2,4,7] ⟨BB h1,trivial⟩) ?_)
   refine .join (v:=v) (fun y:Int×Int×List EO×Nat×Int×Int×Int×Int=>((fr 137 [(0,(.map (some 0))),(2,(zI y.1)),(4,pt 1 0),(7,(zI y.2.1))]),(hp 2 [(.map y.2.2.1 y.2.2.2.1),(oC [(zI y.2.2.2.2.1),(zI y.2.2.2.2.2.1),(zI y.2.2.2.2.2.2.1),(zI y.2.2.2.2.2.2.2)])]))) (fun y=>M8 pu n (Ay pu n w0) y.1 y.2.1 y.2.2.1 y.2.2.2.1 y.2.2.2.2.1 y.2.2.2.2.2.1 y.2.2.2.2.2.2.1 y.2.2.2.2.2.2.2) ?_ ?_
   ·rintro⟨z11,z12,e3,k4,z13,z14,z15,z16⟩ hm
    unfold M8 at hm
    refine .rK ?_
    replace hm:=Ae hm;obtain⟨h3,hm⟩:=hm
    exact⟨(z11,(Aj .i64 (Int.sub z12 (1:Int))),e3,k4,z13,z14,z15,z16),hm,(.k [0] [false] [.tmp 4 false] [0,2,4,7] ⟨BB h3,trivial⟩)⟩
   ·refine .block (.then (.rK (.ghs (fr 137 [(0,(.map (some 0))),(2,zI z5),(4,pt 1 0),(7,zI z6),(8,(zI (0:Int)))]) (hp 2 [(.map e2 k3),(oC [zI z7,zI z8,zI z9,zI z10])]) (.k [0] [false] [.tmp 4 false] [0,2,4,7,8] ⟨BB h1,trivial⟩) ?_)))
    refine .block (.loopM (v:=v) (fun y:Int×Int×Int×List EO×Nat×Int×Int×Int×Int=>((fr 137 [(0,(.map (some 0))),(2,(zI y.1)),(4,pt 1 0),(7,(zI y.2.1)),(8,(zI y.2.2.1))]),(hp 2 [(.map y.2.2.2.1 y.2.2.2.2.1),(oC [(zI y.2.2.2.2.2.1),(zI y.2.2.2.2.2.2.1),(zI y.2.2.2.2.2.2.2.1),(zI y.2.2.2.2.2.2.2.2)])]))) (fun w y=>AO pu n (Ay pu n w0) w y.1 y.2.1 y.2.2.1 y.2.2.2.1 y.2.2.2.2.1 y.2.2.2.2.2.1 y.2.2.2.2.2.2.1 y.2.2.2.2.2.2.2.1 y.2.2.2.2.2.2.2.2) n ⟨(z5,z6,(0:Int),e2,k3,z7,z8,z9,z10),hm,(.k [0] [false] [.tmp 4 false] [0,2,4,7,8] ⟨BB h1,trivial⟩)⟩ (fun _=>rfl) ?_)
    rintro w1 ⟨z17,z18,z19,e4,k5,z20,z21,z22,z23⟩ hm
    replace hm:Oi pu n (Ay pu n w0) (AO pu n (Ay pu n w0) w1) z17 z18 z19 e4 k5 z20 z21 z22 z23=some v:=hm
    unfold Oi at hm
    refine .then (.then (.rK ?_))
    replace hm:=Ae hm;obtain⟨h4,hm⟩:=hm
    refine .ghs (fr 137 [(0,(.map (some 0))),(2,zI z17),(4,pt 1 0),(7,zI z18),(8,zI z19),(27,(zB (nt (AY (Aj .i64 (Int.sub z22 z18)) z19))))]) (hp 2 [(.map e4 k5),(oC [zI z20,zI z21,zI z22,zI z23])]) (.k [0] [false] [.tmp 4 false] [0,2,4,7,8,27] ⟨BB h4,trivial⟩) ?_
    replace hm:=Ag hm;rcases hm with⟨h5,hm⟩ | ⟨h5,hm⟩
    ·refine Cs (nt (AY (Aj .i64 (Int.sub z22 z18)) z19)) h5 ?_
     refine .skip (.ghs (fr 137 [(0,(.map (some 0))),(2,zI z17),(4,pt 1 0),(7,zI z18),(8,zI z19)]) (hp 2 [(.map e4 k5),(oC [zI z20,zI z21,zI z22,zI z23])]) (.k [0] [false] [.tmp 4 false] [0,2,4,7,8] ⟨BB h4,trivial⟩) ?_)
     refine .join (v:=v) (fun y:Int×Int×Int×List EO×Nat×Int×Int×Int×Int=>((fr 137 [(0,(.map (some 0))),(2,(zI y.1)),(4,pt 1 0),(7,(zI y.2.1)),(8,(zI y.2.2.1))]),(hp 2 [(.map y.2.2.2.1 y.2.2.2.2.1),(oC [(zI y.2.2.2.2.2.1),(zI y.2.2.2.2.2.2.1),(zI y.2.2.2.2.2.2.2.1),(zI y.2.2.2.2.2.2.2.2)])]))) (fun y=>M9 pu n (Ay pu n w0) (AO pu n (Ay pu n w0) w1) y.1 y.2.1 y.2.2.1 y.2.2.2.1 y.2.2.2.2.1 y.2.2.2.2.2.1 y.2.2.2.2.2.2.1 y.2.2.2.2.2.2.2.1 y.2.2.2.2.2.2.2.2) ?_ ?_
     ·rintro⟨z24,z25,z26,e5,k6,z27,z28,z29,z30⟩ hm
      unfold M9 at hm
      refine .rK ?_
      replace hm:=Ae hm;obtain⟨h6,hm⟩:=hm
      exact⟨(z24,z25,(Aj .i64 (Int.add z26 (1:Int))),e5,k6,z27,z28,z29,z30),hm,(.k [0] [false] [.tmp 4 false] [0,2,4,7,8] ⟨BB h6,trivial⟩)⟩
     ·refine .block (.then (.rK (.ghs (fr 137 [(0,(.map (some 0))),(2,zI z17),(4,pt 1 0),(7,zI z18),(8,zI z19),(9,(zI (Aj .i64 (Int.sub (Aj .i64 (Int.sub z22 z18)) z19))))]) (hp 2 [(.map e4 k5),(oC [zI z20,zI z21,zI z22,zI z23])]) (.k [0] [false] [.tmp 4 false] [0,2,4,7,8,9] ⟨BB h4,trivial⟩) ?_)))
      refine .then (.rK (.ghs (fr 137 [(0,(.map (some 0))),(2,zI z17),(4,pt 1 0),(7,zI z18),(8,zI z19),(9,(zI (Aj .i64 (Int.sub (Aj .i64 (Int.sub z22 z18)) z19)))),(10,(zI (0:Int)))]) (hp 2 [(.map e4 k5),(oC [zI z20,zI z21,zI z22,zI z23])]) (.k [0] [false] [.tmp 4 false] [0,2,4,7,8,9,10] ⟨BB h4,trivial⟩) ?_))
      refine .block (.loopM (v:=v) (fun y:Int×Int×Int×Int×Int×List EO×Nat×Int×Int×Int×Int=>((fr 137 [(0,(.map (some 0))),(2,(zI y.1)),(4,pt 1 0),(7,(zI y.2.1)),(8,(zI y.2.2.1)),(9,(zI y.2.2.2.1)),(10,(zI y.2.2.2.2.1))]),(hp 2 [(.map y.2.2.2.2.2.1 y.2.2.2.2.2.2.1),(oC [(zI y.2.2.2.2.2.2.2.1),(zI y.2.2.2.2.2.2.2.2.1),(zI y.2.2.2.2.2.2.2.2.2.1),(zI y.2.2.2.2.2.2.2.2.2.2)])]))) (fun w y=>A7 pu n (Ay pu n w0) (AO pu n (Ay pu n w0) w1) w y.1 y.2.1 y.2.2.1 y.2.2.2.1 y.2.2.2.2.1 y.2.2.2.2.2.1 y.2.2.2.2.2.2.1 y.2.2.2.2.2.2.2.1 y.2.2.2.2.2.2.2.2.1 y.2.2.2.2.2.2.2.2.2.1 y.2.2.2.2.2.2.2.2.2.2) n ⟨(z17,z18,z19,(Aj .i64 (Int.sub (Aj .i64 (Int.sub z22 z18)) z19)),(0:Int),e4,k5,z20,z21,z22,z23),hm,(.k [0] [false] [.tmp 4 false] [0,2,4,7,8,9,10] ⟨BB h4,trivial⟩)⟩ (fun _=>rfl) ?_)
      rintro w2 ⟨z31,z32,z33,z34,z35,e6,k7,z36,z37,z38,z39⟩ hm
      replace hm:Ni pu n (Ay pu n w0) (AO pu n (Ay pu n w0) w1) (A7 pu n (Ay pu n w0) (AO pu n (Ay pu n w0) w1) w2) z31 z32 z33 z34 z35 e6 k7 z36 z37 z38 z39=some v:=hm
      unfold Ni at hm
      refine .then (.then (.rK ?_))
      replace hm:=Ae hm;obtain⟨h7,hm⟩:=hm
      refine .ghs (fr 137 [(0,(.map (some 0))),(2,zI z31),(4,pt 1 0),(7,zI z32),(8,zI z33),(9,zI z34),(10,zI z35),(39,(zB (nt (AY z36 z35))))]) (hp 2 [(.map e6 k7),(oC [zI z36,zI z37,zI z38,zI z39])]) (.k [0] [false] [.tmp 4 false] [0,2,4,7,8,9,10,39] ⟨BB h7,trivial⟩) ?_
      replace hm:=Ag hm;rcases hm with⟨h8,hm⟩ | ⟨h8,hm⟩
      ·refine Cs (nt (AY z36 z35)) h8 ?_
       refine .skip (.ghs (fr 137 [(0,(.map (some 0))),(2,zI z31),(4,pt 1 0),(7,zI z32),(8,zI z33),(9,zI z34),(10,zI z35)]) (hp 2 [(.map e6 k7),(oC [zI z36,zI z37,zI z38,zI z39])]) (.k [0] [false] [.tmp 4 false] [0,2,4,7,8,9,10] ⟨BB h7,trivial⟩) ?_)
       refine .join (v:=v) (fun y:Int×Int×Int×Int×Int×List EO×Nat×Int×Int×Int×Int=>((fr 137 [(0,(.map (some 0))),(2,(zI y.1)),(4,pt 1 0),(7,(zI y.2.1)),(8,(zI y.2.2.1)),(9,(zI y.2.2.2.1)),(10,(zI y.2.2.2.2.1))]),(hp 2 [(.map y.2.2.2.2.2.1 y.2.2.2.2.2.2.1),(oC [(zI y.2.2.2.2.2.2.2.1),(zI y.2.2.2.2.2.2.2.2.1),(zI y.2.2.2.2.2.2.2.2.2.1),(zI y.2.2.2.2.2.2.2.2.2.2)])]))) (fun y=>Nc pu n (Ay pu n w0) (AO pu n (Ay pu n w0) w1) (A7 pu n (Ay pu n w0) (AO pu n (Ay pu n w0) w1) w2) y.1 y.2.1 y.2.2.1 y.2.2.2.1 y.2.2.2.2.1 y.2.2.2.2.2.1 y.2.2.2.2.2.2.1 y.2.2.2.2.2.2.2.1 y.2.2.2.2.2.2.2.2.1 y.2.2.2.2.2.2.2.2.2.1 y.2.2.2.2.2.2.2.2.2.2) ?_ ?_
       ·rintro⟨z40,z41,z42,z43,z44,e7,k8,z45,z46,z47,z48⟩ hm
        unfold Nc at hm
        refine .rK ?_
        replace hm:=Ae hm;obtain⟨h9,hm⟩:=hm
        exact⟨(z40,z41,z42,z43,(Aj .i64 (Int.add z44 (1:Int))),e7,k8,z45,z46,z47,z48),hm,(.k [0] [false] [.tmp 4 false] [0,2,4,7,8,9,10] ⟨BB h9,trivial⟩)⟩
       ·refine .block (.then (.rK (.ghs (fr 137 [(0,(.map (some 0))),(2,zI z31),(4,pt 1 0),(7,zI z32),(8,zI z33),(9,zI z34),(10,zI z35),(11,(zI (0:Int)))]) (hp 2 [(.map e6 k7),(oC [zI z36,zI z37,zI z38,zI z39])]) (.k [0] [false] [.tmp 4 false] [0,2,4,7,8,9,10,11] ⟨BB h7,trivial⟩) ?_)))
        refine .block (.loopM (v:=v) (fun y:Int×Int×Int×Int×Int×Int×List EO×Nat×Int×Int×Int×Int=>((fr 137 [(0,(.map (some 0))),(2,(zI y.1)),(4,pt 1 0),(7,(zI y.2.1)),(8,(zI y.2.2.1)),(9,(zI y.2.2.2.1)),(10,(zI y.2.2.2.2.1)),(11,(zI y.2.2.2.2.2.1))]),(hp 2 [(.map y.2.2.2.2.2.2.1 y.2.2.2.2.2.2.2.1),(oC [(zI y.2.2.2.2.2.2.2.2.1),(zI y.2.2.2.2.2.2.2.2.2.1),(zI y.2.2.2.2.2.2.2.2.2.2.1),(zI y.2.2.2.2.2.2.2.2.2.2.2)])]))) (fun w y=>Co pu n (Ay pu n w0) (AO pu n (Ay pu n w0) w1) (A7 pu n (Ay pu n w0) (AO pu n (Ay pu n w0) w1) w2) w y.1 y.2.1 y.2.2.1 y.2.2.2.1 y.2.2.2.2.1 y.2.2.2.2.2.1 y.2.2.2.2.2.2.1 y.2.2.2.2.2.2.2.1 y.2.2.2.2.2.2.2.2.1 y.2.2.2.2.2.2.2.2.2.1 y.2.2.2.2.2.2.2.2.2.2.1 y.2.2.2.2.2.2.2.2.2.2.2) n ⟨(z31,z32,z33,z34,z35,(0:Int),e6,k7,z36,z37,z38,z39),hm,(.k [0] [false] [.tmp 4 false] [0,2,4,7,8,9,10,11] ⟨BB h7,trivial⟩)⟩ (fun _=>rfl) ?_)
        rintro w3 ⟨z49,z50,z51,z52,z53,z54,e8,k9,z55,z56,z57,z58⟩ hm
        replace hm:Nh pu n (Ay pu n w0) (AO pu n (Ay pu n w0) w1) (A7 pu n (Ay pu n w0) (AO pu n (Ay pu n w0) w1) w2) (Co pu n (Ay pu n w0) (AO pu n (Ay pu n w0) w1) (A7 pu n (Ay pu n w0) (AO pu n (Ay pu n w0) w1) w2) w3) z49 z50 z51 z52 z53 z54 e8 k9 z55 z56 z57 z58=some v:=hm
        unfold Nh at hm
        refine .then (.then (.rK ?_))
        replace hm:=Ae hm;obtain⟨h10,hm⟩:=hm
        refine .ghs (fr 137 [(0,(.map (some 0))),(2,zI z49),(4,pt 1 0),(7,zI z50),(8,zI z51),(9,zI z52),(10,zI z53),(11,zI z54),(47,(zB (nt (AY (Aj .i64 (Int.sub z55 z53)) z54))))]) (hp 2 [(.map e8 k9),(oC [zI z55,zI z56,zI z57,zI z58])]) (.k [0] [false] [.tmp 4 false] [0,2,4,7,8,9,10,11,47] ⟨BB h10,trivial⟩) ?_
        replace hm:=Ag hm;rcases hm with⟨h11,hm⟩ | ⟨h11,hm⟩
        ·refine Cs (nt (AY (Aj .i64 (Int.sub z55 z53)) z54)) h11 ?_
         refine .skip (.ghs (fr 137 [(0,(.map (some 0))),(2,zI z49),(4,pt 1 0),(7,zI z50),(8,zI z51),(9,zI z52),(10,zI z53),(11,zI z54)]) (hp 2 [(.map e8 k9),(oC [zI z55,zI z56,zI z57,zI z58])]) (.k [0] [false] [.tmp 4 false] [0,2,4,7,8,9,10,11] ⟨BB h10,trivial⟩) ?_)
         refine .join (v:=v) (fun y:Int×Int×Int×Int×Int×Int×List EO×Nat×Int×Int×Int×Int=>((fr 137 [(0,(.map (some 0))),(2,(zI y.1)),(4,pt 1 0),(7,(zI y.2.1)),(8,(zI y.2.2.1)),(9,(zI y.2.2.2.1)),(10,(zI y.2.2.2.2.1)),(11,(zI y.2.2.2.2.2.1))]),(hp 2 [(.map y.2.2.2.2.2.2.1 y.2.2.2.2.2.2.2.1),(oC [(zI y.2.2.2.2.2.2.2.2.1),(zI y.2.2.2.2.2.2.2.2.2.1),(zI y.2.2.2.2.2.2.2.2.2.2.1),(zI y.2.2.2.2.2.2.2.2.2.2.2)])]))) (fun y=>Nf pu n (Ay pu n w0) (AO pu n (Ay pu n w0) w1) (A7 pu n (Ay pu n w0) (AO pu n (Ay pu n w0) w1) w2) (Co pu n (Ay pu n w0) (AO pu n (Ay pu n w0) w1) (A7 pu n (Ay pu n w0) (AO pu n (Ay pu n w0) w1) w2) w3) y.1 y.2.1 y.2.2.1 y.2.2.2.1 y.2.2.2.2.1 y.2.2.2.2.2.1 y.2.2.2.2.2.2.1 y.2.2.2.2.2.2.2.1 y.2.2.2.2.2.2.2.2.1 y.2.2.2.2.2.2.2.2.2.1 y.2.2.2.2.2.2.2.2.2.2.1 y.2.2.2.2.2.2.2.2.2.2.2) ?_ ?_
         ·rintro⟨z59,z60,z61,z62,z63,z64,e9,k10,z65,z66,z67,z68⟩ hm
          unfold Nf at hm
          refine .rK ?_
          replace hm:=Ae hm;obtain⟨h12,hm⟩:=hm
          exact⟨(z59,z60,z61,z62,z63,(Aj .i64 (Int.add z64 (1:Int))),e9,k10,z65,z66,z67,z68),hm,(.k [0] [false] [.tmp 4 false] [0,2,4,7,8,9,10,11] ⟨BB h12,trivial⟩)⟩
         ·refine .block (.then (.rK (.ghs (fr 137 [(0,(.map (some 0))),(2,zI z49),(4,pt 1 0),(7,zI z50),(8,zI z51),(9,zI z52),(10,zI z53),(11,zI z54),(12,(zI (0:Int)))]) (hp 2 [(.map e8 k9),(oC [zI z55,zI z56,zI z57,zI z58])]) (.k [0] [false] [.tmp 4 false] [0,2,4,7,8,9,10,11,12] ⟨BB h10,trivial⟩) ?_)))
          refine .block (.loopM (v:=v) (fun y:Int×Int×Int×Int×Int×Int×Int×List EO×Nat×Int×Int×Int×Int=>((fr 137 [(0,(.map (some 0))),(2,(zI y.1)),(4,pt 1 0),(7,(zI y.2.1)),(8,(zI y.2.2.1)),(9,(zI y.2.2.2.1)),(10,(zI y.2.2.2.2.1)),(11,(zI y.2.2.2.2.2.1)),(12,(zI y.2.2.2.2.2.2.1))]),(hp 2 [(.map y.2.2.2.2.2.2.2.1 y.2.2.2.2.2.2.2.2.1),(oC [(zI y.2.2.2.2.2.2.2.2.2.1),(zI y.2.2.2.2.2.2.2.2.2.2.1),(zI y.2.2.2.2.2.2.2.2.2.2.2.1),(zI y.2.2.2.2.2.2.2.2.2.2.2.2)])]))) (fun w y=>FN pu n (Ay pu n w0) (AO pu n (Ay pu n w0) w1) (A7 pu n (Ay pu n w0) (AO pu n (Ay pu n w0) w1) w2) (Co pu n (Ay pu n w0) (AO pu n (Ay pu n w0) w1) (A7 pu n (Ay pu n w0) (AO pu n (Ay pu n w0) w1) w2) w3) w y.1 y.2.1 y.2.2.1 y.2.2.2.1 y.2.2.2.2.1 y.2.2.2.2.2.1 y.2.2.2.2.2.2.1 y.2.2.2.2.2.2.2.1 y.2.2.2.2.2.2.2.2.1 y.2.2.2.2.2.2.2.2.2.1 y.2.2.2.2.2.2.2.2.2.2.1 y.2.2.2.2.2.2.2.2.2.2.2.1 y.2.2.2.2.2.2.2.2.2.2.2.2) n ⟨(z49,z50,z51,z52,z53,z54,(0:Int),e8,k9,z55,z56,z57,z58),hm,(.k [0] [false] [.tmp 4 false] [0,2,4,7,8,9,10,11,12] ⟨BB h10,trivial⟩)⟩ (fun _=>rfl) ?_)
          rintro w4 ⟨z69,z70,z71,z72,z73,z74,z75,e10,k11,z76,z77,z78,z79⟩ hm
          replace hm:Ng pu n (Ay pu n w0) (AO pu n (Ay pu n w0) w1) (A7 pu n (Ay pu n w0) (AO pu n (Ay pu n w0) w1) w2) (Co pu n (Ay pu n w0) (AO pu n (Ay pu n w0) w1) (A7 pu n (Ay pu n w0) (AO pu n (Ay pu n w0) w1) w2) w3) (FN pu n (Ay pu n w0) (AO pu n (Ay pu n w0) w1) (A7 pu n (Ay pu n w0) (AO pu n (Ay pu n w0) w1) w2) (Co pu n (Ay pu n w0) (AO pu n (Ay pu n w0) w1) (A7 pu n (Ay pu n w0) (AO pu n (Ay pu n w0) w1) w2) w3) w4) z69 z70 z71 z72 z73 z74 z75 e10 k11 z76 z77 z78 z79=some v:=hm
          unfold Ng at hm
          refine .then (.then (.rK ?_))
          replace hm:=Ae hm;obtain⟨h13,hm⟩:=hm
          refine .ghs (fr 137 [(0,(.map (some 0))),(2,zI z69),(4,pt 1 0),(7,zI z70),(8,zI z71),(9,zI z72),(10,zI z73),(11,zI z74),(12,zI z75),(53,(zB (nt (AY z77 z75))))]) (hp 2 [(.map e10 k11),(oC [zI z76,zI z77,zI z78,zI z79])]) (.k [0] [false] [.tmp 4 false] [0,2,4,7,8,9,10,11,12,53] ⟨BB h13,trivial⟩) ?_
          replace hm:=Ag hm;rcases hm with⟨h14,hm⟩ | ⟨h14,hm⟩
          ·refine Cs (nt (AY z77 z75)) h14 ?_
           refine .skip (.ghs (fr 137 [(0,(.map (some 0))),(2,zI z69),(4,pt 1 0),(7,zI z70),(8,zI z71),(9,zI z72),(10,zI z73),(11,zI z74),(12,zI z75)]) (hp 2 [(.map e10 k11),(oC [zI z76,zI z77,zI z78,zI z79])]) (.k [0] [false] [.tmp 4 false] [0,2,4,7,8,9,10,11,12] ⟨BB h13,trivial⟩) ?_)
           refine .join (v:=v) (fun y:Int×Int×Int×Int×Int×Int×Int×List EO×Nat×Int×Int×Int×Int=>((fr 137 [(0,(.map (some 0))),(2,(zI y.1)),(4,pt 1 0),(7,(zI y.2.1)),(8,(zI y.2.2.1)),(9,(zI y.2.2.2.1)),(10,(zI y.2.2.2.2.1)),(11,(zI y.2.2.2.2.2.1)),(12,(zI y.2.2.2.2.2.2.1))]),(hp 2 [(.map y.2.2.2.2.2.2.2.1 y.2.2.2.2.2.2.2.2.1),(oC [(zI y.2.2.2.2.2.2.2.2.2.1),(zI y.2.2.2.2.2.2.2.2.2.2.1),(zI y.2.2.2.2.2.2.2.2.2.2.2.1),(zI y.2.2.2.2.2.2.2.2.2.2.2.2)])]))) (fun y=>Kb pu n (Ay pu n w0) (AO pu n (Ay pu n w0) w1) (A7 pu n (Ay pu n w0) (AO pu n (Ay pu n w0) w1) w2) (Co pu n (Ay pu n w0) (AO pu n (Ay pu n w0) w1) (A7 pu n (Ay pu n w0) (AO pu n (Ay pu n w0) w1) w2) w3) (FN pu n (Ay pu n w0) (AO pu n (Ay pu n w0) w1) (A7 pu n (Ay pu n w0) (AO pu n (Ay pu n w0) w1) w2) (Co pu n (Ay pu n w0) (AO pu n (Ay pu n w0) w1) (A7 pu n (Ay pu n w0) (AO pu n (Ay pu n w0) w1) w2) w3) w4) y.1 y.2.1 y.2.2.1 y.2.2.2.1 y.2.2.2.2.1 y.2.2.2.2.2.1 y.2.2.2.2.2.2.1 y.2.2.2.2.2.2.2.1 y.2.2.2.2.2.2.2.2.1 y.2.2.2.2.2.2.2.2.2.1 y.2.2.2.2.2.2.2.2.2.2.1 y.2.2.2.2.2.2.2.2.2.2.2.1 y.2.2.2.2.2.2.2.2.2.2.2.2) ?_ ?_
           ·rintro⟨z80,z81,z82,z83,z84,z85,z86,e11,k12,z87,z88,z89,z90⟩ hm
            unfold Kb at hm
            refine .rK ?_
            replace hm:=Ae hm;obtain⟨h15,hm⟩:=hm
            exact⟨(z80,z81,z82,z83,z84,z85,(Aj .i64 (Int.add z86 (1:Int))),e11,k12,z87,z88,z89,z90),hm,(.k [0] [false] [.tmp 4 false] [0,2,4,7,8,9,10,11,12] ⟨BB h15,trivial⟩)⟩
           ·refine .block (.then (.rK (.ghs (fr 137 [(0,(.map (some 0))),(2,zI z69),(4,pt 1 0),(7,zI z70),(8,zI z71),(9,zI z72),(10,zI z73),(11,zI z74),(12,zI z75),(13,(zI (0:Int)))]) (hp 2 [(.map e10 k11),(oC [zI z76,zI z77,zI z78,zI z79])]) (.k [0] [false] [.tmp 4 false] [0,2,4,7,8,9,10,11,12,13] ⟨BB h13,trivial⟩) ?_)))
            refine .block (.loopM (v:=v) (fun y:Int×Int×Int×Int×Int×Int×Int×Int×List EO×Nat×Int×Int×Int×Int=>((fr 137 [(0,(.map (some 0))),(2,(zI y.1)),(4,pt 1 0),(7,(zI y.2.1)),(8,(zI y.2.2.1)),(9,(zI y.2.2.2.1)),(10,(zI y.2.2.2.2.1)),(11,(zI y.2.2.2.2.2.1)),(12,(zI y.2.2.2.2.2.2.1)),(13,(zI y.2.2.2.2.2.2.2.1))]),(hp 2 [(.map y.2.2.2.2.2.2.2.2.1 y.2.2.2.2.2.2.2.2.2.1),(oC [(zI y.2.2.2.2.2.2.2.2.2.2.1),(zI y.2.2.2.2.2.2.2.2.2.2.2.1),(zI y.2.2.2.2.2.2.2.2.2.2.2.2.1),(zI y.2.2.2.2.2.2.2.2.2.2.2.2.2)])]))) (fun w y=>Gy pu n (Ay pu n w0) (AO pu n (Ay pu n w0) w1) (A7 pu n (Ay pu n w0) (AO pu n (Ay pu n w0) w1) w2) (Co pu n (Ay pu n w0) (AO pu n (Ay pu n w0) w1) (A7 pu n (Ay pu n w0) (AO pu n (Ay pu n w0) w1) w2) w3) (FN pu n (Ay pu n w0) (AO pu n (Ay pu n w0) w1) (A7 pu n (Ay pu n w0) (AO pu n (Ay pu n w0) w1) w2) (Co pu n (Ay pu n w0) (AO pu n (Ay pu n w0) w1) (A7 pu n (Ay pu n w0) (AO pu n (Ay pu n w0) w1) w2) w3) w4) w y.1 y.2.1 y.2.2.1 y.2.2.2.1 y.2.2.2.2.1 y.2.2.2.2.2.1 y.2.2.2.2.2.2.1 y.2.2.2.2.2.2.2.1 y.2.2.2.2.2.2.2.2.1 y.2.2.2.2.2.2.2.2.2.1 y.2.2.2.2.2.2.2.2.2.2.1 y.2.2.2.2.2.2.2.2.2.2.2.1 y.2.2.2.2.2.2.2.2.2.2.2.2.1 y.2.2.2.2.2.2.2.2.2.2.2.2.2) n ⟨(z69,z70,z71,z72,z73,z74,z75,(0:Int),e10,k11,z76,z77,z78,z79),hm,(.k [0] [false] [.tmp 4 false] [0,2,4,7,8,9,10,11,12,13] ⟨BB h13,trivial⟩)⟩ (fun _=>rfl) ?_)
            rintro w5 ⟨z91,z92,z93,z94,z95,z96,z97,z98,e12,k13,z99,z100,z101,z102⟩ hm
            replace hm:Kc pu n (Ay pu n w0) (AO pu n (Ay pu n w0) w1) (A7 pu n (Ay pu n w0) (AO pu n (Ay pu n w0) w1) w2) (Co pu n (Ay pu n w0) (AO pu n (Ay pu n w0) w1) (A7 pu n (Ay pu n w0) (AO pu n (Ay pu n w0) w1) w2) w3) (FN pu n (Ay pu n w0) (AO pu n (Ay pu n w0) w1) (A7 pu n (Ay pu n w0) (AO pu n (Ay pu n w0) w1) w2) (Co pu n (Ay pu n w0) (AO pu n (Ay pu n w0) w1) (A7 pu n (Ay pu n w0) (AO pu n (Ay pu n w0) w1) w2) w3) w4) (Gy pu n (Ay pu n w0) (AO pu n (Ay pu n w0) w1) (A7 pu n (Ay pu n w0) (AO pu n (Ay pu n w0) w1) w2) (Co pu n (Ay pu n w0) (AO pu n (Ay pu n w0) w1) (A7 pu n (Ay pu n w0) (AO pu n (Ay pu n w0) w1) w2) w3) (FN pu n (Ay pu n w0) (AO pu n (Ay pu n w0) w1) (A7 pu n (Ay pu n w0) (AO pu n (Ay pu n w0) w1) w2) (Co pu n (Ay pu n w0) (AO pu n (Ay pu n w0) w1) (A7 pu n (Ay pu n w0) (AO pu n (Ay pu n w0) w1) w2) w3) w4) w5) z91 z92 z93 z94 z95 z96 z97 z98 e12 k13 z99 z100 z101 z102=some v:=hm
            unfold Kc at hm
            refine .then (.then (.rK ?_))
            replace hm:=Ae hm;obtain⟨h16,hm⟩:=hm
            refine .ghs (fr 137 [(0,(.map (some 0))),(2,zI z91),(4,pt 1 0),(7,zI z92),(8,zI z93),(9,zI z94),(10,zI z95),(11,zI z96),(12,zI z97),(13,zI z98),(61,(zB (nt (AY (Aj .i64 (Int.sub z100 z97)) z98))))]) (hp 2 [(.map e12 k13),(oC [zI z99,zI z100,zI z101,zI z102])]) (.k [0] [false] [.tmp 4 false] [0,2,4,7,8,9,10,11,12,13,61] ⟨BB h16,trivial⟩) ?_
            replace hm:=Ag hm;rcases hm with⟨h17,hm⟩ | ⟨h17,hm⟩
            ·refine Cs (nt (AY (Aj .i64 (Int.sub z100 z97)) z98)) h17 ?_
             refine .skip (.ghs (fr 137 [(0,(.map (some 0))),(2,zI z91),(4,pt 1 0),(7,zI z92),(8,zI z93),(9,zI z94),(10,zI z95),(11,zI z96),(12,zI z97),(13,zI z98)]) (hp 2 [(.map e12 k13),(oC [zI z99,zI z100,zI z101,zI z102])]) (.k [0] [false] [.tmp 4 false] [0,2,4,7,8,9,10,11,12,13] ⟨BB h16,trivial⟩) ?_)
             refine .join (v:=v) (fun y:Int×Int×Int×Int×Int×Int×Int×Int×List EO×Nat×Int×Int×Int×Int=>((fr 137 [(0,(.map (some 0))),(2,(zI y.1)),(4,pt 1 0),(7,(zI y.2.1)),(8,(zI y.2.2.1)),(9,(zI y.2.2.2.1)),(10,(zI y.2.2.2.2.1)),(11,(zI y.2.2.2.2.2.1)),(12,(zI y.2.2.2.2.2.2.1)),(13,(zI y.2.2.2.2.2.2.2.1))]),(hp 2 [(.map y.2.2.2.2.2.2.2.2.1 y.2.2.2.2.2.2.2.2.2.1),(oC [(zI y.2.2.2.2.2.2.2.2.2.2.1),(zI y.2.2.2.2.2.2.2.2.2.2.2.1),(zI y.2.2.2.2.2.2.2.2.2.2.2.2.1),(zI y.2.2.2.2.2.2.2.2.2.2.2.2.2)])]))) (fun y=>Iq pu n (Ay pu n w0) (AO pu n (Ay pu n w0) w1) (A7 pu n (Ay pu n w0) (AO pu n (Ay pu n w0) w1) w2) (Co pu n (Ay pu n w0) (AO pu n (Ay pu n w0) w1) (A7 pu n (Ay pu n w0) (AO pu n (Ay pu n w0) w1) w2) w3) (FN pu n (Ay pu n w0) (AO pu n (Ay pu n w0) w1) (A7 pu n (Ay pu n w0) (AO pu n (Ay pu n w0) w1) w2) (Co pu n (Ay pu n w0) (AO pu n (Ay pu n w0) w1) (A7 pu n (Ay pu n w0) (AO pu n (Ay pu n w0) w1) w2) w3) w4) (Gy pu n (Ay pu n w0) (AO pu n (Ay pu n w0) w1) (A7 pu n (Ay pu n w0) (AO pu n (Ay pu n w0) w1) w2) (Co pu n (Ay pu n w0) (AO pu n (Ay pu n w0) w1) (A7 pu n (Ay pu n w0) (AO pu n (Ay pu n w0) w1) w2) w3) (FN pu n (Ay pu n w0) (AO pu n (Ay pu n w0) w1) (A7 pu n (Ay pu n w0) (AO pu n (Ay pu n w0) w1) w2) (Co pu n (Ay pu n w0) (AO pu n (Ay pu n w0) w1) (A7 pu n (Ay pu n w0) (AO pu n (Ay pu n w0) w1) w2) w3) w4) w5) y.1 y.2.1 y.2.2.1 y.2.2.2.1 y.2.2.2.2.1 y.2.2.2.2.2.1 y.2.2.2.2.2.2.1 y.2.2.2.2.2.2.2.1 y.2.2.2.2.2.2.2.2.1 y.2.2.2.2.2.2.2.2.2.1 y.2.2.2.2.2.2.2.2.2.2.1 y.2.2.2.2.2.2.2.2.2.2.2.1 y.2.2.2.2.2.2.2.2.2.2.2.2.1 y.2.2.2.2.2.2.2.2.2.2.2.2.2) ?_ ?_
             ·rintro⟨z103,z104,z105,z106,z107,z108,z109,z110,e13,k14,z111,z112,z113,z114⟩ hm
              unfold Iq at hm
              refine .rK ?_
              replace hm:=Ae hm;obtain⟨h18,hm⟩:=hm
              exact⟨(z103,z104,z105,z106,z107,z108,z109,(Aj .i64 (Int.add z110 (1:Int))),e13,k14,z111,z112,z113,z114),hm,(.k [0] [false] [.tmp 4 false] [0,2,4,7,8,9,10,11,12,13] ⟨BB h18,trivial⟩)⟩
             ·refine .block (.then (.rK (.ghs (fr 137 [(0,(.map (some 0))),(2,zI z91),(4,pt 1 0),(7,zI z92),(8,zI z93),(9,zI z94),(10,zI z95),(11,zI z96),(12,zI z97),(13,zI z98),(14,(zI (Aj .i64 (Int.add (Aj .i64 (Int.add z93 z95)) z97)))),(15,(zI (Aj .i64 (Int.add (Aj .i64 (Int.add z94 z96)) z98))))]) (hp 2 [(.map e12 k13),(oC [zI z99,zI z100,zI z101,zI z102])]) (.k [0] [false] [.tmp 4 false] [0,2,4,7,8,9,10,11,12,13,14,15] ⟨BB h16,trivial⟩) ?_)))
              refine .then (.join (v:=v) (fun y:Int×Int×Int×Int×Int×Int×Int×Int×Bool×List EO×Nat×Int×Int×Int×Int=>((fr 137 [(0,(.map (some 0))),(2,(zI y.1)),(4,pt 1 0),(7,(zI y.2.1)),(8,(zI y.2.2.1)),(9,(zI y.2.2.2.1)),(10,(zI y.2.2.2.2.1)),(11,(zI y.2.2.2.2.2.1)),(12,(zI y.2.2.2.2.2.2.1)),(13,(zI y.2.2.2.2.2.2.2.1)),(89,(zB y.2.2.2.2.2.2.2.2.1))]),(hp 2 [(.map y.2.2.2.2.2.2.2.2.2.1 y.2.2.2.2.2.2.2.2.2.2.1),(oC [(zI y.2.2.2.2.2.2.2.2.2.2.2.1),(zI y.2.2.2.2.2.2.2.2.2.2.2.2.1),(zI y.2.2.2.2.2.2.2.2.2.2.2.2.2.1),(zI y.2.2.2.2.2.2.2.2.2.2.2.2.2.2)])]))) (fun y=>Ir pu n (Ay pu n w0) (AO pu n (Ay pu n w0) w1) (A7 pu n (Ay pu n w0) (AO pu n (Ay pu n w0) w1) w2) (Co pu n (Ay pu n w0) (AO pu n (Ay pu n w0) w1) (A7 pu n (Ay pu n w0) (AO pu n (Ay pu n w0) w1) w2) w3) (FN pu n (Ay pu n w0) (AO pu n (Ay pu n w0) w1) (A7 pu n (Ay pu n w0) (AO pu n (Ay pu n w0) w1) w2) (Co pu n (Ay pu n w0) (AO pu n (Ay pu n w0) w1) (A7 pu n (Ay pu n w0) (AO pu n (Ay pu n w0) w1) w2) w3) w4) (Gy pu n (Ay pu n w0) (AO pu n (Ay pu n w0) w1) (A7 pu n (Ay pu n w0) (AO pu n (Ay pu n w0) w1) w2) (Co pu n (Ay pu n w0) (AO pu n (Ay pu n w0) w1) (A7 pu n (Ay pu n w0) (AO pu n (Ay pu n w0) w1) w2) w3) (FN pu n (Ay pu n w0) (AO pu n (Ay pu n w0) w1) (A7 pu n (Ay pu n w0) (AO pu n (Ay pu n w0) w1) w2) (Co pu n (Ay pu n w0) (AO pu n (Ay pu n w0) w1) (A7 pu n (Ay pu n w0) (AO pu n (Ay pu n w0) w1) w2) w3) w4) w5) y.1 y.2.1 y.2.2.1 y.2.2.2.1 y.2.2.2.2.1 y.2.2.2.2.2.1 y.2.2.2.2.2.2.1 y.2.2.2.2.2.2.2.1 y.2.2.2.2.2.2.2.2.1 y.2.2.2.2.2.2.2.2.2.1 y.2.2.2.2.2.2.2.2.2.2.1 y.2.2.2.2.2.2.2.2.2.2.2.1 y.2.2.2.2.2.2.2.2.2.2.2.2.1 y.2.2.2.2.2.2.2.2.2.2.2.2.2.1 y.2.2.2.2.2.2.2.2.2.2.2.2.2.2) ?_ ?_)
              ·rintro⟨z115,z116,z117,z118,z119,z120,z121,z122,b0,e14,k15,z123,z124,z125,z126⟩ hm
               unfold Ir at hm
               replace hm:=Ag hm;rcases hm with⟨h19,hm⟩ | ⟨h19,hm⟩
               ·refine .ifT b0 (by kernel_rfl) h19 ?_
                refine .exit ?_
                replace hm:=Ae hm;obtain⟨h20,hm⟩:=hm
                exact⟨(z115,z116,z117,z118,z119,z120,z121,z122,e14,k15,z123,z124,z125,z126),hm,(.k [0] [false] [.tmp 4 false] [0,2,4,7,8,9,10,11,12,13] ⟨BB h20,trivial⟩)⟩
               ·refine .ifF b0 (by kernel_rfl) h19 ?_
                refine .skip ?_
                replace hm:=Ae hm;obtain⟨h21,hm⟩:=hm
                refine .ghs (fr 137 [(0,(.map (some 0))),(2,zI z115),(4,pt 1 0),(7,zI z116),(8,zI z117),(9,zI z118),(10,zI z119),(11,zI z120),(12,zI z121),(13,zI z122)]) (hp 2 [(.map e14 k15),(oC [zI z123,zI z124,zI z125,zI z126])]) (.k [0] [false] [.tmp 4 false] [0,2,4,7,8,9,10,11,12,13] ⟨BB h21,trivial⟩) ?_
                refine .join (v:=v) (fun y:Int×Int×Int×Int×Int×Int×Int×Int×Bool×List EO×Nat×Int×Int×Int×Int=>((fr 137 [(0,(.map (some 0))),(2,(zI y.1)),(4,pt 1 0),(7,(zI y.2.1)),(8,(zI y.2.2.1)),(9,(zI y.2.2.2.1)),(10,(zI y.2.2.2.2.1)),(11,(zI y.2.2.2.2.2.1)),(12,(zI y.2.2.2.2.2.2.1)),(13,(zI y.2.2.2.2.2.2.2.1)),(136,(zB y.2.2.2.2.2.2.2.2.1))]),(hp 2 [(.map y.2.2.2.2.2.2.2.2.2.1 y.2.2.2.2.2.2.2.2.2.2.1),(oC [(zI y.2.2.2.2.2.2.2.2.2.2.2.1),(zI y.2.2.2.2.2.2.2.2.2.2.2.2.1),(zI y.2.2.2.2.2.2.2.2.2.2.2.2.2.1),(zI y.2.2.2.2.2.2.2.2.2.2.2.2.2.2)])]))) (fun y=>G9 pu n (Ay pu n w0) (AO pu n (Ay pu n w0) w1) (A7 pu n (Ay pu n w0) (AO pu n (Ay pu n w0) w1) w2) (Co pu n (Ay pu n w0) (AO pu n (Ay pu n w0) w1) (A7 pu n (Ay pu n w0) (AO pu n (Ay pu n w0) w1) w2) w3) (FN pu n (Ay pu n w0) (AO pu n (Ay pu n w0) w1) (A7 pu n (Ay pu n w0) (AO pu n (Ay pu n w0) w1) w2) (Co pu n (Ay pu n w0) (AO pu n (Ay pu n w0) w1) (A7 pu n (Ay pu n w0) (AO pu n (Ay pu n w0) w1) w2) w3) w4) (Gy pu n (Ay pu n w0) (AO pu n (Ay pu n w0) w1) (A7 pu n (Ay pu n w0) (AO pu n (Ay pu n w0) w1) w2) (Co pu n (Ay pu n w0) (AO pu n (Ay pu n w0) w1) (A7 pu n (Ay pu n w0) (AO pu n (Ay pu n w0) w1) w2) w3) (FN pu n (Ay pu n w0) (AO pu n (Ay pu n w0) w1) (A7 pu n (Ay pu n w0) (AO pu n (Ay pu n w0) w1) w2) (Co pu n (Ay pu n w0) (AO pu n (Ay pu n w0) w1) (A7 pu n (Ay pu n w0) (AO pu n (Ay pu n w0) w1) w2) w3) w4) w5) y.1 y.2.1 y.2.2.1 y.2.2.2.1 y.2.2.2.2.1 y.2.2.2.2.2.1 y.2.2.2.2.2.2.1 y.2.2.2.2.2.2.2.1 y.2.2.2.2.2.2.2.2.1 y.2.2.2.2.2.2.2.2.2.1 y.2.2.2.2.2.2.2.2.2.2.1 y.2.2.2.2.2.2.2.2.2.2.2.1 y.2.2.2.2.2.2.2.2.2.2.2.2.1 y.2.2.2.2.2.2.2.2.2.2.2.2.2.1 y.2.2.2.2.2.2.2.2.2.2.2.2.2.2) ?_ ?_
                ·rintro⟨z127,z128,z129,z130,z131,z132,z133,z134,b1,e15,k16,z135,z136,z137,z138⟩ hm
                 unfold G9 at hm
                 replace hm:=Ag hm;rcases hm with⟨h22,hm⟩ | ⟨h22,hm⟩
                 ·refine .ifT b1 (by kernel_rfl) h22 ?_
                  refine .then (.rK ?_)
                  replace hm:=Ae hm;obtain⟨h23,hm⟩:=hm
                  refine .ghs (fr 137 [(6,zB true)]) (hp 1 [(.map e15 k16)]) (.k [0] [false] [] [6] ⟨BB h23,trivial⟩) ?_
                  refine .ghs (fr 137 [(6,zB true)]) (hp 1 [(.map e15 k16)]) (.k [0] [false] [] [6] ⟨BB h23,trivial⟩) ?_
                  refine .ret ?_
                  exact Eo (zB true) [(.map e15 k16)] (by kernel_rfl) hm (Nat.le_of_ble_eq_true rfl) (Dr (PP _ _) DL)
                 ·refine .ifF b1 (by kernel_rfl) h22 ?_
                  refine .skip ?_
                  replace hm:=Ae hm;obtain⟨h24,hm⟩:=hm
                  exact⟨(z127,z128,z129,z130,z131,z132,z133,z134,e15,k16,z135,z136,z137,z138),hm,(.k [0] [false] [.tmp 4 false] [0,2,4,7,8,9,10,11,12,13] ⟨BB h24,trivial⟩)⟩
                ·replace hm:=Ab hm;obtain⟨v0,h25,hm⟩:=hm
                 replace hm:=BG hm;obtain⟨l0,rfl,hm⟩:=hm
                 replace hm:=Ad hm;obtain⟨v1,l1536077_0,rfl,hm⟩:=hm
                 replace hm:=Ad hm;obtain⟨v2,l1536077_1,rfl,hm⟩:=hm
                 replace hm:=Ad hm;obtain⟨v3,l1536077_2,rfl,hm⟩:=hm
                 replace hm:=Ad hm;obtain⟨v4,l1536077_3,rfl,hm⟩:=hm
                 replace hm:=AC hm;obtain⟨rfl,hm⟩:=hm
                 replace hm:=Ai hm;obtain⟨x0,rfl,hm⟩:=hm
                 replace hm:=Ai hm;obtain⟨x1,rfl,hm⟩:=hm
                 replace hm:=Ai hm;obtain⟨x2,rfl,hm⟩:=hm
                 replace hm:=Ai hm;obtain⟨x3,rfl,hm⟩:=hm
                 replace hm:=Ae hm;obtain⟨h26,hm⟩:=hm
                 replace hm:=Ab hm;obtain⟨v5,h27,hm⟩:=hm
                 replace hm:=Ch hm;obtain⟨l1,rfl,hm⟩:=hm
                 replace hm:=Ad hm;obtain⟨v6,l1536101_0,rfl,hm⟩:=hm
                 replace hm:=Ad hm;obtain⟨v7,l1536101_1,rfl,hm⟩:=hm
                 replace hm:=AC hm;obtain⟨rfl,hm⟩:=hm
                 replace hm:=Be hm;obtain⟨b2,rfl,hm⟩:=hm
                 replace hm:=Ab hm;obtain⟨y0,h28,hm⟩:=hm
                 replace hm:=Ae hm;obtain⟨h29,hm⟩:=hm
                 replace hm:=Ag hm;rcases hm with⟨h30,hm⟩ | ⟨h30,hm⟩
                 ·replace hm:=Ab hm;obtain⟨v8,h31,hm⟩:=hm
                  replace hm:=BG hm;obtain⟨l2,rfl,hm⟩:=hm
                  replace hm:=Ad hm;obtain⟨v9,l1536113_0,rfl,hm⟩:=hm
                  replace hm:=Ad hm;obtain⟨v10,l1536113_1,rfl,hm⟩:=hm
                  replace hm:=Ad hm;obtain⟨v11,l1536113_2,rfl,hm⟩:=hm
                  replace hm:=Ad hm;obtain⟨v12,l1536113_3,rfl,hm⟩:=hm
                  replace hm:=AC hm;obtain⟨rfl,hm⟩:=hm
                  replace hm:=Ai hm;obtain⟨x4,rfl,hm⟩:=hm
                  replace hm:=Ai hm;obtain⟨x5,rfl,hm⟩:=hm
                  replace hm:=Ai hm;obtain⟨x6,rfl,hm⟩:=hm
                  replace hm:=Ai hm;obtain⟨x7,rfl,hm⟩:=hm
                  replace hm:=Ae hm;obtain⟨h32,hm⟩:=hm
                  replace hm:=Ab hm;obtain⟨v13,h33,hm⟩:=hm
                  replace hm:=Ch hm;obtain⟨l3,rfl,hm⟩:=hm
                  replace hm:=Ad hm;obtain⟨v14,l1536137_0,rfl,hm⟩:=hm
                  replace hm:=Ad hm;obtain⟨v15,l1536137_1,rfl,hm⟩:=hm
                  replace hm:=AC hm;obtain⟨rfl,hm⟩:=hm
                  replace hm:=Be hm;obtain⟨b4,rfl,hm⟩:=hm
                  replace hm:=Ab hm;obtain⟨y1,h34,hm⟩:=hm
                  replace hm:=Ae hm;obtain⟨h35,hm⟩:=hm
                  replace hm:=Ag hm;rcases hm with⟨h36,hm⟩ | ⟨h36,hm⟩
                  ·replace hm:=Ab hm;obtain⟨v16,h37,hm⟩:=hm
                   replace hm:=BG hm;obtain⟨l4,rfl,hm⟩:=hm
                   replace hm:=Ad hm;obtain⟨v17,l1536149_0,rfl,hm⟩:=hm
                   replace hm:=Ad hm;obtain⟨v18,l1536149_1,rfl,hm⟩:=hm
                   replace hm:=Ad hm;obtain⟨v19,l1536149_2,rfl,hm⟩:=hm
                   replace hm:=Ad hm;obtain⟨v20,l1536149_3,rfl,hm⟩:=hm
                   replace hm:=AC hm;obtain⟨rfl,hm⟩:=hm
                   replace hm:=Ai hm;obtain⟨x8,rfl,hm⟩:=hm
                   replace hm:=Ai hm;obtain⟨x9,rfl,hm⟩:=hm
                   replace hm:=Ai hm;obtain⟨x10,rfl,hm⟩:=hm
                   replace hm:=Ai hm;obtain⟨x11,rfl,hm⟩:=hm
                   replace hm:=Ae hm;obtain⟨h38,hm⟩:=hm
                   replace hm:=Ab hm;obtain⟨v21,h39,hm⟩:=hm
                   replace hm:=Ch hm;obtain⟨l5,rfl,hm⟩:=hm
                   replace hm:=Ad hm;obtain⟨v22,l1536173_0,rfl,hm⟩:=hm
                   replace hm:=Ad hm;obtain⟨v23,l1536173_1,rfl,hm⟩:=hm
                   replace hm:=AC hm;obtain⟨rfl,hm⟩:=hm
                   replace hm:=Be hm;obtain⟨b10,rfl,hm⟩:=hm
                   replace hm:=Ab hm;obtain⟨y2,h40,hm⟩:=hm
                   replace hm:=Ae hm;obtain⟨h41,hm⟩:=hm
                   refine .reg (eN 29 (Fr.puts (fr 137 [(0,(.map (some 0))),(2,zI z115),(4,pt 1 0),(7,zI z116),(8,zI z117),(9,zI z118),(10,zI z119),(11,zI z120),(12,zI z121),(13,zI z122)]) [(90,(.map (some 0))),(91,(.agg ⟨[zI z123,zI z124,zI z125,zI z126]⟩)),(92,pt 1 0),(93,zI z123),(94,zI z119),(95,(zI (Aj .i64 (Int.sub z123 z119)))),(96,zI z120),(97,(zI (Aj .i64 (Int.sub (Aj .i64 (Int.sub z123 z119)) z120)))),(98,pt 1 1),(99,zI z124),(100,zI z121),(101,(zI (Aj .i64 (Int.sub z124 z121)))),(102,zI z122),(103,(zI (Aj .i64 (Int.sub (Aj .i64 (Int.sub z124 z121)) z122)))),(104,zI z116),(105,(.agg ⟨[zI x0,zI x1,zI x2,zI x3]⟩)),(106,zI z115),(107,(zI (Aj .i64 (Int.sub z115 (1:Int))))),(108,zB true),(109,zB true),(110,(.map (some 0))),(111,(.agg ⟨[zI z123,zI z124,zI z125,zI z126]⟩)),(112,zI z119),(113,zI z117),(114,(zI (Aj .i64 (Int.add z119 z117)))),(115,zI z122),(116,zI z118),(117,(zI (Aj .i64 (Int.add z122 z118)))),(118,(.agg ⟨[zI x4,zI x5,zI x6,zI x7]⟩))]) (hp 2 [(.map (Akd.es y0) (Akd.clock y0)),(oC [zI z123,zI z124,zI z125,zI z126])]) (eC 15 ((oo (pu 97 [(.agg ⟨[zI z123,zI z124,zI z125,zI z126]⟩),(zI (Aj .i64 (Int.sub (Aj .i64 (Int.sub z123 z119)) z120))),(zI (Aj .i64 (Int.sub (Aj .i64 (Int.sub z124 z121)) z122))),zI z116]) none fun v=>some (v,(hp 2 [(.map e14 k15),(oC [zI z123,zI z124,zI z125,zI z126])])))) (AB h25) (eC 2 (Fp tabs [[none],[none,none,none,none],[none]] 3 [.tmp 0 false] [false] (pu 10510) [(.map (some 0)),(.agg ⟨[zI x0,zI x1,zI x2,zI x3]⟩),(zI (Aj .i64 (Int.sub z115 (1:Int))))] (hp 2 [(.map e14 k15),(oC [zI z123,zI z124,zI z125,zI z126])])) (show _=some ((zB true),_) from (by have hz:Fp tabs [[none],[none,none,none,none],[none]] 3 [.tmp 0 false] [false] (pu 10510) [(.map (some 0)),(.agg ⟨[zI x0,zI x1,zI x2,zI x3]⟩),(zI (Aj .i64 (Int.sub z115 (1:Int))))] (hp 2 [(.map e14 k15),(oC [zI z123,zI z124,zI z125,zI z126])])=some ((zB b2),(hp 2 [(.map (Akd.es y0) (Akd.clock y0)),(oC [zI z123,zI z124,zI z125,zI z126])])):=(FM (as:=[(.map (some 0)),(.agg ⟨[zI x0,zI x1,zI x2,zI x3]⟩),(zI (Aj .i64 (Int.sub z115 (1:Int))))]) (H1:=(hp 2 [(.map e14 k15),(oC [zI z123,zI z124,zI z125,zI z126])])) (BO (Eb Dn) (BO (Jc (DT Dn (DT Dn (DT Dn (DT Dn Jb))))) (BO (Eb Dn) FX))) (FL (H2:=(hp 2 [(.map (Akd.es y0) (Akd.clock y0)),(oC [zI z123,zI z124,zI z125,zI z126])])) (v:=(zB b2)) (v':=(zB b2)) [some 0] [(false,some 0)] [(.map e14 k15)] [(.map (some 0)),(.agg ⟨[zI x0,zI x1,zI x2,zI x3]⟩),(zI (Aj .i64 (Int.sub z115 (1:Int))))] [v7] [(.map (Akd.es y0) (Akd.clock y0))] [some 0,none] [(false,(.map (Akd.es y0) (Akd.clock y0)))] [(.map (Akd.es y0) (Akd.clock y0))] (by kernel_rfl) (C8 (Hy h26) BI) (Eq.trans (by kernel_rfl) h27) (C8 (FK h28) BI) (C8 (Hz h29) BI)));rw[h30] at hz;exact hz)) (eC 9 ((oo (pu 97 [(.agg ⟨[zI z123,zI z124,zI z125,zI z126]⟩),(zI (Aj .i64 (Int.add z119 z117))),(zI (Aj .i64 (Int.add z122 z118))),(zI (0:Int))]) none fun v=>some (v,(hp 2 [(.map (Akd.es y0) (Akd.clock y0)),(oC [zI z123,zI z124,zI z125,zI z126])])))) (AB h31) (by kernel_rfl)))) (eC 2 (Fp tabs [[none],[none,none,none,none],[none]] 3 [.tmp 0 false] [false] (pu 10510) [(.map (some 0)),(.agg ⟨[zI x4,zI x5,zI x6,zI x7]⟩),(zI (Aj .i64 (Int.sub z115 (1:Int))))] (hp 2 [(.map (Akd.es y0) (Akd.clock y0)),(oC [zI z123,zI z124,zI z125,zI z126])])) (show _=some ((zB true),_) from (by have hz:Fp tabs [[none],[none,none,none,none],[none]] 3 [.tmp 0 false] [false] (pu 10510) [(.map (some 0)),(.agg ⟨[zI x4,zI x5,zI x6,zI x7]⟩),(zI (Aj .i64 (Int.sub z115 (1:Int))))] (hp 2 [(.map (Akd.es y0) (Akd.clock y0)),(oC [zI z123,zI z124,zI z125,zI z126])])=some ((zB b4),(hp 2 [(.map (Akd.es y1) (Akd.clock y1)),(oC [zI z123,zI z124,zI z125,zI z126])])):=(FM (as:=[(.map (some 0)),(.agg ⟨[zI x4,zI x5,zI x6,zI x7]⟩),(zI (Aj .i64 (Int.sub z115 (1:Int))))]) (H1:=(hp 2 [(.map (Akd.es y0) (Akd.clock y0)),(oC [zI z123,zI z124,zI z125,zI z126])])) (BO (Eb Dn) (BO (Jc (DT Dn (DT Dn (DT Dn (DT Dn Jb))))) (BO (Eb Dn) FX))) (FL (H2:=(hp 2 [(.map (Akd.es y1) (Akd.clock y1)),(oC [zI z123,zI z124,zI z125,zI z126])])) (v:=(zB b4)) (v':=(zB b4)) [some 0] [(false,some 0)] [(.map (Akd.es y0) (Akd.clock y0))] [(.map (some 0)),(.agg ⟨[zI x4,zI x5,zI x6,zI x7]⟩),(zI (Aj .i64 (Int.sub z115 (1:Int))))] [v15] [(.map (Akd.es y1) (Akd.clock y1))] [some 0,none] [(false,(.map (Akd.es y1) (Akd.clock y1)))] [(.map (Akd.es y1) (Akd.clock y1))] (by kernel_rfl) (C8 (Hy h32) BI) (Eq.trans (by kernel_rfl) h33) (C8 (FK h34) BI) (C8 (Hz h35) BI)));rw[h36] at hz;exact hz)) (eC 10 ((oo (pu 97 [(.agg ⟨[zI z123,zI z124,zI z125,zI z126]⟩),(zI (Aj .i64 (Int.add z120 z118))),(zI (Aj .i64 (Int.add z121 z117))),(zI (0:Int))]) none fun v=>some (v,(hp 2 [(.map (Akd.es y1) (Akd.clock y1)),(oC [zI z123,zI z124,zI z125,zI z126])])))) (AB h37) (eC 2 (Fp tabs [[none],[none,none,none,none],[none]] 3 [.tmp 0 false] [false] (pu 10510) [(.map (some 0)),(.agg ⟨[zI x8,zI x9,zI x10,zI x11]⟩),(zI (Aj .i64 (Int.sub z115 (1:Int))))] (hp 2 [(.map (Akd.es y1) (Akd.clock y1)),(oC [zI z123,zI z124,zI z125,zI z126])])) (FM (as:=[(.map (some 0)),(.agg ⟨[zI x8,zI x9,zI x10,zI x11]⟩),(zI (Aj .i64 (Int.sub z115 (1:Int))))]) (H1:=(hp 2 [(.map (Akd.es y1) (Akd.clock y1)),(oC [zI z123,zI z124,zI z125,zI z126])])) (BO (Eb Dn) (BO (Jc (DT Dn (DT Dn (DT Dn (DT Dn Jb))))) (BO (Eb Dn) FX))) (FL (H2:=(hp 2 [(.map (Akd.es y2) (Akd.clock y2)),(oC [zI z123,zI z124,zI z125,zI z126])])) (v:=(zB b10)) (v':=(zB b10)) [some 0] [(false,some 0)] [(.map (Akd.es y1) (Akd.clock y1))] [(.map (some 0)),(.agg ⟨[zI x8,zI x9,zI x10,zI x11]⟩),(zI (Aj .i64 (Int.sub z115 (1:Int))))] [v23] [(.map (Akd.es y2) (Akd.clock y2))] [some 0,none] [(false,(.map (Akd.es y2) (Akd.clock y2)))] [(.map (Akd.es y2) (Akd.clock y2))] (by kernel_rfl) (C8 (Hy h38) BI) (Eq.trans (by kernel_rfl) h39) (C8 (FK h40) BI) (C8 (Hz h41) BI))) (eE))))) ?_
                   replace hm:=Ae hm;obtain⟨h42,hm⟩:=hm
                   exact⟨(z115,z116,z117,z118,z119,z120,z121,z122,b10,(Akd.es y2),(Akd.clock y2),z123,z124,z125,z126),hm,(.k [0] [false] [.tmp 4 false] [0,2,4,7,8,9,10,11,12,13,136] ⟨BB h42,trivial⟩)⟩
                  ·refine .reg (eC 15 ((oo (pu 97 [(.agg ⟨[zI z123,zI z124,zI z125,zI z126]⟩),(zI (Aj .i64 (Int.sub (Aj .i64 (Int.sub z123 z119)) z120))),(zI (Aj .i64 (Int.sub (Aj .i64 (Int.sub z124 z121)) z122))),zI z116]) none fun v=>some (v,(hp 2 [(.map e14 k15),(oC [zI z123,zI z124,zI z125,zI z126])])))) (AB h25) (eC 2 (Fp tabs [[none],[none,none,none,none],[none]] 3 [.tmp 0 false] [false] (pu 10510) [(.map (some 0)),(.agg ⟨[zI x0,zI x1,zI x2,zI x3]⟩),(zI (Aj .i64 (Int.sub z115 (1:Int))))] (hp 2 [(.map e14 k15),(oC [zI z123,zI z124,zI z125,zI z126])])) (show _=some ((zB true),_) from (by have hz:Fp tabs [[none],[none,none,none,none],[none]] 3 [.tmp 0 false] [false] (pu 10510) [(.map (some 0)),(.agg ⟨[zI x0,zI x1,zI x2,zI x3]⟩),(zI (Aj .i64 (Int.sub z115 (1:Int))))] (hp 2 [(.map e14 k15),(oC [zI z123,zI z124,zI z125,zI z126])])=some ((zB b2),(hp 2 [(.map (Akd.es y0) (Akd.clock y0)),(oC [zI z123,zI z124,zI z125,zI z126])])):=(FM (as:=[(.map (some 0)),(.agg ⟨[zI x0,zI x1,zI x2,zI x3]⟩),(zI (Aj .i64 (Int.sub z115 (1:Int))))]) (H1:=(hp 2 [(.map e14 k15),(oC [zI z123,zI z124,zI z125,zI z126])])) (BO (Eb Dn) (BO (Jc (DT Dn (DT Dn (DT Dn (DT Dn Jb))))) (BO (Eb Dn) FX))) (FL (H2:=(hp 2 [(.map (Akd.es y0) (Akd.clock y0)),(oC [zI z123,zI z124,zI z125,zI z126])])) (v:=(zB b2)) (v':=(zB b2)) [some 0] [(false,some 0)] [(.map e14 k15)] [(.map (some 0)),(.agg ⟨[zI x0,zI x1,zI x2,zI x3]⟩),(zI (Aj .i64 (Int.sub z115 (1:Int))))] [v7] [(.map (Akd.es y0) (Akd.clock y0))] [some 0,none] [(false,(.map (Akd.es y0) (Akd.clock y0)))] [(.map (Akd.es y0) (Akd.clock y0))] (by kernel_rfl) (C8 (Hy h26) BI) (Eq.trans (by kernel_rfl) h27) (C8 (FK h28) BI) (C8 (Hz h29) BI)));rw[h30] at hz;exact hz)) (eC 9 ((oo (pu 97 [(.agg ⟨[zI z123,zI z124,zI z125,zI z126]⟩),(zI (Aj .i64 (Int.add z119 z117))),(zI (Aj .i64 (Int.add z122 z118))),(zI (0:Int))]) none fun v=>some (v,(hp 2 [(.map (Akd.es y0) (Akd.clock y0)),(oC [zI z123,zI z124,zI z125,zI z126])])))) (AB h31) (eC 2 (Fp tabs [[none],[none,none,none,none],[none]] 3 [.tmp 0 false] [false] (pu 10510) [(.map (some 0)),(.agg ⟨[zI x4,zI x5,zI x6,zI x7]⟩),(zI (Aj .i64 (Int.sub z115 (1:Int))))] (hp 2 [(.map (Akd.es y0) (Akd.clock y0)),(oC [zI z123,zI z124,zI z125,zI z126])])) (show _=some ((zB false),_) from (by have hz:Fp tabs [[none],[none,none,none,none],[none]] 3 [.tmp 0 false] [false] (pu 10510) [(.map (some 0)),(.agg ⟨[zI x4,zI x5,zI x6,zI x7]⟩),(zI (Aj .i64 (Int.sub z115 (1:Int))))] (hp 2 [(.map (Akd.es y0) (Akd.clock y0)),(oC [zI z123,zI z124,zI z125,zI z126])])=some ((zB b4),(hp 2 [(.map (Akd.es y1) (Akd.clock y1)),(oC [zI z123,zI z124,zI z125,zI z126])])):=(FM (as:=[(.map (some 0)),(.agg ⟨[zI x4,zI x5,zI x6,zI x7]⟩),(zI (Aj .i64 (Int.sub z115 (1:Int))))]) (H1:=(hp 2 [(.map (Akd.es y0) (Akd.clock y0)),(oC [zI z123,zI z124,zI z125,zI z126])])) (BO (Eb Dn) (BO (Jc (DT Dn (DT Dn (DT Dn (DT Dn Jb))))) (BO (Eb Dn) FX))) (FL (H2:=(hp 2 [(.map (Akd.es y1) (Akd.clock y1)),(oC [zI z123,zI z124,zI z125,zI z126])])) (v:=(zB b4)) (v':=(zB b4)) [some 0] [(false,some 0)] [(.map (Akd.es y0) (Akd.clock y0))] [(.map (some 0)),(.agg ⟨[zI x4,zI x5,zI x6,zI x7]⟩),(zI (Aj .i64 (Int.sub z115 (1:Int))))] [v15] [(.map (Akd.es y1) (Akd.clock y1))] [some 0,none] [(false,(.map (Akd.es y1) (Akd.clock y1)))] [(.map (Akd.es y1) (Akd.clock y1))] (by kernel_rfl) (C8 (Hy h32) BI) (Eq.trans (by kernel_rfl) h33) (C8 (FK h34) BI) (C8 (Hz h35) BI)));rw[h36] at hz;exact hz)) (eE))))) ?_
                   replace hm:=Ae hm;obtain⟨h43,hm⟩:=hm
                   exact⟨(z115,z116,z117,z118,z119,z120,z121,z122,false,(Akd.es y1),(Akd.clock y1),z123,z124,z125,z126),hm,(.k [0] [false] [.tmp 4 false] [0,2,4,7,8,9,10,11,12,13,136] ⟨BB h43,trivial⟩)⟩
                 ·refine .reg (eC 15 ((oo (pu 97 [(.agg ⟨[zI z123,zI z124,zI z125,zI z126]⟩),(zI (Aj .i64 (Int.sub (Aj .i64 (Int.sub z123 z119)) z120))),(zI (Aj .i64 (Int.sub (Aj .i64 (Int.sub z124 z121)) z122))),zI z116]) none fun v=>some (v,(hp 2 [(.map e14 k15),(oC [zI z123,zI z124,zI z125,zI z126])])))) (AB h25) (eC 2 (Fp tabs [[none],[none,none,none,none],[none]] 3 [.tmp 0 false] [false] (pu 10510) [(.map (some 0)),(.agg ⟨[zI x0,zI x1,zI x2,zI x3]⟩),(zI (Aj .i64 (Int.sub z115 (1:Int))))] (hp 2 [(.map e14 k15),(oC [zI z123,zI z124,zI z125,zI z126])])) (show _=some ((zB false),_) from (by have hz:Fp tabs [[none],[none,none,none,none],[none]] 3 [.tmp 0 false] [false] (pu 10510) [(.map (some 0)),(.agg ⟨[zI x0,zI x1,zI x2,zI x3]⟩),(zI (Aj .i64 (Int.sub z115 (1:Int))))] (hp 2 [(.map e14 k15),(oC [zI z123,zI z124,zI z125,zI z126])])=some ((zB b2),(hp 2 [(.map (Akd.es y0) (Akd.clock y0)),(oC [zI z123,zI z124,zI z125,zI z126])])):=(FM (as:=[(.map (some 0)),(.agg ⟨[zI x0,zI x1,zI x2,zI x3]⟩),(zI (Aj .i64 (Int.sub z115 (1:Int))))]) (H1:=(hp 2 [(.map e14 k15),(oC [zI z123,zI z124,zI z125,zI z126])])) (BO (Eb Dn) (BO (Jc (DT Dn (DT Dn (DT Dn (DT Dn Jb))))) (BO (Eb Dn) FX))) (FL (H2:=(hp 2 [(.map (Akd.es y0) (Akd.clock y0)),(oC [zI z123,zI z124,zI z125,zI z126])])) (v:=(zB b2)) (v':=(zB b2)) [some 0] [(false,some 0)] [(.map e14 k15)] [(.map (some 0)),(.agg ⟨[zI x0,zI x1,zI x2,zI x3]⟩),(zI (Aj .i64 (Int.sub z115 (1:Int))))] [v7] [(.map (Akd.es y0) (Akd.clock y0))] [some 0,none] [(false,(.map (Akd.es y0) (Akd.clock y0)))] [(.map (Akd.es y0) (Akd.clock y0))] (by kernel_rfl) (C8 (Hy h26) BI) (Eq.trans (by kernel_rfl) h27) (C8 (FK h28) BI) (C8 (Hz h29) BI)));rw[h30] at hz;exact hz)) (eE))) ?_
                  replace hm:=Ae hm;obtain⟨h44,hm⟩:=hm
                  exact⟨(z115,z116,z117,z118,z119,z120,z121,z122,false,(Akd.es y0),(Akd.clock y0),z123,z124,z125,z126),hm,(.k [0] [false] [.tmp 4 false] [0,2,4,7,8,9,10,11,12,13,136] ⟨BB h44,trivial⟩)⟩
              ·replace hm:=Ag hm;rcases hm with⟨h45,hm⟩ | ⟨h45,hm⟩
               ·refine .reg (eC 3 (some ((zB (Bd (bb (AY (Aj .i64 (Int.add (Aj .i64 (Int.add z93 z95)) z97)) (Aj .i64 (Int.add (Aj .i64 (Int.add z94 z96)) z98))) (Aj .i64 (Int.add (Aj .i64 (Int.add z94 z96)) z98)) (Aj .i64 (Int.add (Aj .i64 (Int.add z93 z95)) z97))) (0:Int))),(hp 2 [(.map e12 k13),(oC [zI z99,zI z100,zI z101,zI z102])]))) (show _=some ((zB true),_) from (by rw[show (Bd (bb (AY (Aj .i64 (Int.add (Aj .i64 (Int.add z93 z95)) z97)) (Aj .i64 (Int.add (Aj .i64 (Int.add z94 z96)) z98))) (Aj .i64 (Int.add (Aj .i64 (Int.add z94 z96)) z98)) (Aj .i64 (Int.add (Aj .i64 (Int.add z93 z95)) z97))) (0:Int))=true from h45])) (eE)) ?_
                exact⟨(z91,z92,z93,z94,z95,z96,z97,z98,true,e12,k13,z99,z100,z101,z102),hm,(.k [0] [false] [.tmp 4 false] [0,2,4,7,8,9,10,11,12,13,89] ⟨BB h16,trivial⟩)⟩
               ·refine .reg (eC 3 (some ((zB (Bd (bb (AY (Aj .i64 (Int.add (Aj .i64 (Int.add z93 z95)) z97)) (Aj .i64 (Int.add (Aj .i64 (Int.add z94 z96)) z98))) (Aj .i64 (Int.add (Aj .i64 (Int.add z94 z96)) z98)) (Aj .i64 (Int.add (Aj .i64 (Int.add z93 z95)) z97))) (0:Int))),(hp 2 [(.map e12 k13),(oC [zI z99,zI z100,zI z101,zI z102])]))) (show _=some ((zB false),_) from (by rw[show (Bd (bb (AY (Aj .i64 (Int.add (Aj .i64 (Int.add z93 z95)) z97)) (Aj .i64 (Int.add (Aj .i64 (Int.add z94 z96)) z98))) (Aj .i64 (Int.add (Aj .i64 (Int.add z94 z96)) z98)) (Aj .i64 (Int.add (Aj .i64 (Int.add z93 z95)) z97))) (0:Int))=false from h45])) (eE)) ?_
                exact⟨(z91,z92,z93,z94,z95,z96,z97,z98,(AY z102 (bb (AY (Aj .i64 (Int.sub (Aj .i64 (Int.add (Aj .i64 (Int.add z93 z95)) z97)) (Aj .i64 (Int.add (Aj .i64 (Int.add z94 z96)) z98)))) (Aj .i64 (Int.sub (Aj .i64 (Int.add (Aj .i64 (Int.add z94 z96)) z98)) (Aj .i64 (Int.add (Aj .i64 (Int.add z93 z95)) z97))))) (Aj .i64 (Int.sub (Aj .i64 (Int.add (Aj .i64 (Int.add z94 z96)) z98)) (Aj .i64 (Int.add (Aj .i64 (Int.add z93 z95)) z97)))) (Aj .i64 (Int.sub (Aj .i64 (Int.add (Aj .i64 (Int.add z93 z95)) z97)) (Aj .i64 (Int.add (Aj .i64 (Int.add z94 z96)) z98)))))),e12,k13,z99,z100,z101,z102),hm,(.k [0] [false] [.tmp 4 false] [0,2,4,7,8,9,10,11,12,13,89] ⟨BB h16,trivial⟩)⟩
            ·refine CY (nt (AY (Aj .i64 (Int.sub z100 z97)) z98)) h17 ?_
             refine .exit ?_
             exact⟨(z91,z92,z93,z94,z95,z96,z97,e12,k13,z99,z100,z101,z102),hm,(.k [0] [false] [.tmp 4 false] [0,2,4,7,8,9,10,11,12] ⟨BB h16,trivial⟩)⟩
          ·refine CY (nt (AY z77 z75)) h14 ?_
           refine .exit ?_
           exact⟨(z69,z70,z71,z72,z73,z74,e10,k11,z76,z77,z78,z79),hm,(.k [0] [false] [.tmp 4 false] [0,2,4,7,8,9,10,11] ⟨BB h13,trivial⟩)⟩
        ·refine CY (nt (AY (Aj .i64 (Int.sub z55 z53)) z54)) h11 ?_
         refine .exit ?_
         exact⟨(z49,z50,z51,z52,z53,e8,k9,z55,z56,z57,z58),hm,(.k [0] [false] [.tmp 4 false] [0,2,4,7,8,9,10] ⟨BB h10,trivial⟩)⟩
      ·refine CY (nt (AY z36 z35)) h8 ?_
       refine .exit ?_
       exact⟨(z31,z32,z33,e6,k7,z36,z37,z38,z39),hm,(.k [0] [false] [.tmp 4 false] [0,2,4,7,8] ⟨BB h7,trivial⟩)⟩
    ·refine CY (nt (AY (Aj .i64 (Int.sub z22 z18)) z19)) h5 ?_
     refine .exit ?_
     exact⟨(z17,z18,e4,k5,z20,z21,z22,z23),hm,(.k [0] [false] [.tmp 4 false] [0,2,4,7] ⟨BB h4,trivial⟩)⟩
  ·refine CY (nt (AY z6 (0:Int))) h2 ?_
   refine .exit ?_
   exact⟨(e2,k3),hm,(.k [0] [false] [] [] ⟨BB h1,trivial⟩)⟩
theorem tY {call:A8} (pu:Af) (n:Nat) (hcall:call=Bb tabs isP pu (inl pu)) {args:LV} {os:List AJ} {z:Value} (ha:args.length=3) (hk:os.length=1) (hpl:∀ o∈os,plainO o) (hm:Ow pu n (args++os.map Ef)=some z):args.length≤137∧BN tt call (tabs.length+1) LK (Fr.made 137 args) (BK tabs os) (FJ tt tabs.length 1 [.tmp 6] z):=by
 subst hcall
 have hq:=Bq ha;clear ha;obtain⟨a0,args,rfl,ha⟩:=hq
 have hq:=Bq ha;clear ha;obtain⟨a1,args,rfl,ha⟩:=hq
 have hq:=Bq ha;clear ha;obtain⟨a2,args,rfl,ha⟩:=hq
 obtain rfl:=len_nil ha
 have hq:=Bq hk;clear hk;obtain⟨b0,os,rfl,hk⟩:=hq
 have hp0:plainO b0:=hpl b0 (by simp)
 obtain rfl:=len_nil hk
 replace hm:Ow pu n [a0,a1,a2,Ef b0]=some z:=hm
 unfold Ow at hm
 replace hm:(bb (O5 a0 0) (oo (Bt a1) none fun l0=>(ll l0 none fun v0 l0=>(ll l0 none fun v1 l0=>(ll l0 none fun v2 l0=>(ll l0 none fun v3 l0=>(ll l0 (oo (Bi .i64 v0) none fun x0=>(oo (Bi .i64 v1) none fun x1=>(oo (Bi .i64 v2) none fun x2=>(oo (Bi .i64 v3) none fun x3=>(oo (Bi .i64 a2) none fun x4=>(oo (Fj (Ef b0)) none fun y0=>(KV pu n x0 x1 x2 x3 x4 (Akd.es y0) (Akd.clock y0)))))))) fun _ _=>none)))))) none)=some z:=hm
 replace hm:=Ae hm;obtain⟨h0,hm⟩:=hm
 obtain rfl:=KJ h0
 replace hm:=BG hm;obtain⟨l0,rfl,hm⟩:=hm
 replace hm:=Ad hm;obtain⟨v0,l1536188_0,rfl,hm⟩:=hm
 replace hm:=Ad hm;obtain⟨v1,l1536188_1,rfl,hm⟩:=hm
 replace hm:=Ad hm;obtain⟨v2,l1536188_2,rfl,hm⟩:=hm
 replace hm:=Ad hm;obtain⟨v3,l1536188_3,rfl,hm⟩:=hm
 replace hm:=AC hm;obtain⟨rfl,hm⟩:=hm
 replace hm:=Ai hm;obtain⟨x0,rfl,hm⟩:=hm
 replace hm:=Ai hm;obtain⟨x1,rfl,hm⟩:=hm
 replace hm:=Ai hm;obtain⟨x2,rfl,hm⟩:=hm
 replace hm:=Ai hm;obtain⟨x3,rfl,hm⟩:=hm
 replace hm:=Ai hm;obtain⟨x4,rfl,hm⟩:=hm
 replace hm:=Ab hm;obtain⟨y0,h1,hm⟩:=hm
 obtain rfl:=HY hp0 h1
 refine⟨by simp,?_⟩
 exact .same (F':=(fr 137 [(0,(.map (some 0))),(1,(.agg ⟨[zI x0,zI x1,zI x2,zI x3]⟩)),(2,zI x4)])) (H':=(hp 1 [(.map (Akd.es y0) (Akd.clock y0))])) (by kernel_rfl) (by kernel_rfl) (tX pu n x0 x1 x2 x3 x4 (Akd.es y0) (Akd.clock y0) hm)
end
end Go.TpAM
