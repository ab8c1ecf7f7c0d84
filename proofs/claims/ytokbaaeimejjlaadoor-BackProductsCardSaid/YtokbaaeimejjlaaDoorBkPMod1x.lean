/- Words for the models of BackProducts. -/
import Derived.Test.YtokbaaeimejjlaaDoorSpEntryx
import Derived.Test.YtokbaaeimejjlaaDoorBkPNodesx
import Derived.Test.YtokbaaeimejjlaaDoorBkPCode
import Derived.KernelRfl

set_option maxRecDepth 100000
namespace Go.BkPM
open Go.Sp Go.BkP
noncomputable section
def orc19:List Value→Option Value:=Go.BkQ.trueF
def orc66:List Value→Option Value:=Go.BkQ.cellsM
def orc77:List Value→Option Value:=fun _=>none
end
end Go.BkPM
set_option maxRecDepth 100000
set_option maxHeartbeats 20000000
set_option linter.unusedVariables false
namespace Go.BkPM
open Go.Sp Go.BkP
noncomputable section
def tab0:List Value:=[.int .u8 0,.int .u8 1,.int .u8 28,.int .u8 2,.int .u8 29,.int .u8 14,.int .u8 24,.int .u8 3,.int .u8 30,.int .u8 22,.int .u8 20,.int .u8 15,.int .u8 25,.int .u8 17,.int .u8 4,.int .u8 8,.int .u8 31,.int .u8 27,.int .u8 13,.int .u8 23,.int .u8 21,.int .u8 19,.int .u8 16,.int .u8 7,.int .u8 26,.int .u8 12,.int .u8 18,.int .u8 6,.int .u8 11,.int .u8 5,.int .u8 10,.int .u8 9]
def tabs:List (List Value):=[tab0]
abbrev hT (n:Nat) (l:List AObj):AHeap:=hp n (oT tab0 :: l)
theorem trF {a b:Bool} (h:b = true) (e:a = b:=by kernel_rfl):a = true:=e.trans h
abbrev OV:=Option Value
abbrev LV:=List Value
def plist:List Nat:=[6,10,11,12,19,24,33,34,48,49,51,52,53,58,66,68,69]
def isP:FuncId→Bool:=fun g=>memN g plist
def inl (pu:PureF):CallF:=fun g args H=>bb (Nat.beq g 22) (giveF tabs 1 (pu 22) args H) (bb (Nat.beq g 77) (giveF tabs 1 (pu 77) args H) (bb (Nat.beq g 32) (giveF tabs 1 (pu 32) args H) (bb (Nat.beq g 25) (objG tabs [[none,none,none,some 1]] 1 [] [] (pu 10250) args H) (none))))
end
end Go.BkPM
set_option maxRecDepth 100000
set_option maxHeartbeats 20000000
set_option linter.unusedVariables false
namespace Go.BkPM
open Go.Sp Go.BkP
noncomputable section
def m6_3 (pu:PureF) (n:Nat) (b0:Bool):OV:=
 (some (.bool b0))
def m6_2 (pu:PureF) (n:Nat) (z0 z1 z2 z3:Int) (n0 c0:Nat) (q0:LV):OV:=
 (bb (an (Nat.ble (0 + n0 * 1) (len q0)) (allL closed1 (takeL (n0 * 1) (dropL 0 q0)))) (oo (pu 10250 [(.agg ⟨[.int .i64 z1,.int .i64 z2,.int .i64 z3,(Sl.v 1 (Sl.mk n0 0 (takeL (n0 * 1) (dropL 0 q0))))]⟩)]) none fun v0=>(oo (vTup v0) none fun l0=>(ll l0 none fun v1 l0=>(ll l0 (oo (toI .i64 v1) none fun x0=>(bb (ieq x0 z0) (oo (pu 19 []) none fun v2=>(oo (vBool v2) none fun b0=>(m6_3 pu n b0))) (m6_3 pu n false))) fun _ _=>none)))) none)
def m6_1 (pu:PureF) (n:Nat) (b0:Bool) (z0 z1 z2:Int) (n0 c0:Nat) (q0:LV):OV:=
 (bb (allL closed1 q0) (bb b0 (m6_2 pu n (0:Int) z0 z1 z2 n0 c0 q0) (m6_2 pu n (21:Int) z0 z1 z2 n0 c0 q0)) none)
def m6_5 (pu:PureF) (n:Nat) (ih0:Int→Sl→Bool→Int→Int→Int→Int→Sl→Int→Int→Int→Nat→Nat→LV→OV) (z0:Int) (s0:Sl) (b0:Bool) (z1 z2 z3 z4:Int) (s1:Sl) (z5 z6 z7:Int) (n0 c0:Nat) (q0:LV):OV:=
 (bb (allL closed1 q0) (ih0 z0 s0 b0 (wrapF .i64 (Int.add z1 (1:Int))) z2 z3 z4 s1 z5 z6 z7 n0 c0 q0) none)
def m6_10 (pu:PureF) (n:Nat) (ih0:Int→Sl→Bool→Int→Int→Int→Int→Sl→Int→Int→Int→Nat→Nat→LV→OV) (ih1:Int→Sl→Bool→Int→Int→Int→Int→Int→Sl→Int→Int→Int→Nat→Nat→LV→OV) (z0:Int) (s0:Sl) (b0:Bool) (z1 z2 z3:Int) (b1:Bool) (z4 z5 z6:Int) (s1:Sl) (z7 z8 z9:Int) (n0 c0:Nat) (q0:LV):OV:=
 (bb b1 (some (.bool false)) (bb (allL closed1 q0) (bb b0 (oo (toN z1) none fun k1=>(bb (ieq (aand .u8 (shrI .u8 z0 k1) (1:Int)) (0:Int)) (ih1 z0 s0 true (Int.ofNat k1) (wrapF .i64 (Int.add z2 (1:Int))) z4 z5 z6 s1 z7 z8 z9 n0 c0 q0) (oo (toN z2) none fun k2=>(bb (ieq (aand .u8 (shrI .u8 z0 k2) (1:Int)) (0:Int)) (ih1 z0 s0 true (Int.ofNat k1) (wrapF .i64 (Int.add (Int.ofNat k2) (1:Int))) z4 z5 z6 s1 z7 z8 z9 n0 c0 q0) (oo (toN z3) none fun k3=>(ih1 z0 s0 (ieq (aand .u8 (shrI .u8 z0 k3) (1:Int)) (1:Int)) (Int.ofNat k1) (wrapF .i64 (Int.add (Int.ofNat k2) (1:Int))) z4 z5 z6 s1 z7 z8 z9 n0 c0 q0)))))) (ih1 z0 s0 false z1 (wrapF .i64 (Int.add z2 (1:Int))) z4 z5 z6 s1 z7 z8 z9 n0 c0 q0)) none))
def m6_9 (pu:PureF) (n:Nat) (ih0:Int→Sl→Bool→Int→Int→Int→Int→Sl→Int→Int→Int→Nat→Nat→LV→OV) (ih1:Int→Sl→Bool→Int→Int→Int→Int→Int→Sl→Int→Int→Int→Nat→Nat→LV→OV) (z0:Int) (s0:Sl) (b0:Bool) (z1 z2 z3:Int) (s1:Sl) (b1:Bool) (z4 z5 z6:Int) (s2:Sl) (z7 z8 z9:Int) (n0 c0:Nat) (q0:LV):OV:=
 (bb b1 (some (.bool false)) (bb (allL closed1 q0) (oo (pu 11 [(.agg ⟨[.int .i64 z4,.int .i64 z5,.int .i64 z6,Sl.v 1 s2]⟩),Sl.v 1 s1,.int .i64 z2]) none fun v0=>(oo (vTup v0) none fun l0=>(ll l0 none fun v1 l0=>(ll l0 none fun v2 l0=>(ll l0 (oo (toSl 1 v1) none fun s3=>(oo (toI .i64 v2) none fun x0=>(oo (pu 11 [(.agg ⟨[.int .i64 z4,.int .i64 z5,.int .i64 z6,Sl.v 1 s2]⟩),Sl.v 1 s0,.int .i64 z3]) none fun v3=>(oo (vTup v3) none fun l1=>(ll l1 none fun v4 l1=>(ll l1 none fun v5 l1=>(ll l1 (oo (toSl 1 v4) none fun s4=>(oo (toI .i64 v5) none fun x1=>(bb (nt (ieq x0 (0:Int))) (m6_10 pu n ih0 ih1 z0 s0 b0 z1 z2 z3 true z4 z5 z6 s2 z7 z8 z9 n0 c0 q0) (bb (nt (ieq x1 (0:Int))) (m6_10 pu n ih0 ih1 z0 s0 b0 z1 z2 z3 true z4 z5 z6 s2 z7 z8 z9 n0 c0 q0) (oo (pu 12 [Sl.v 1 s3,Sl.v 1 s4]) none fun v6=>(oo (vBool v6) none fun b2=>(m6_10 pu n ih0 ih1 z0 s0 b0 z1 z2 z3 (nt b2) z4 z5 z6 s2 z7 z8 z9 n0 c0 q0))))))) fun _ _=>none))))))) fun _ _=>none))))) none))
def m6_8 (pu:PureF) (n:Nat) (ih0:Int→Sl→Bool→Int→Int→Int→Int→Sl→Int→Int→Int→Nat→Nat→LV→OV) (ih1:Int→Sl→Bool→Int→Int→Int→Int→Int→Sl→Int→Int→Int→Nat→Nat→LV→OV) (z0:Int) (s0:Sl) (b0:Bool) (z1 z2 z3:Int) (b1:Bool) (z4 z5 z6:Int) (s1:Sl) (z7 z8 z9:Int) (n0 c0:Nat) (q0:LV):OV:=
 (bb b1 (some (.bool false)) (bb (allL closed1 q0) (oo (pu 22 [(Sl.v 1 (Sl.mk 9 0 (takeL (9 * 1) (dropL 0 ([(.int .i64 (0:Int)),(.int .i64 (1:Int)),(.int .i64 (2:Int)),(.int .i64 (3:Int)),(.int .i64 (4:Int)),(.int .i64 (5:Int)),(.int .i64 (6:Int)),(.int .i64 (7:Int)),(.int .i64 (8:Int))]:LV)))))]) none fun v0=>(oo (toSl 1 v0) none fun s2=>(oo (pu 10 [Sl.v 1 s2,(.int .i64 (3:Int)),(.int .i64 (3:Int)),.int .i64 z1]) none fun v1=>(oo (toSl 1 v1) none fun s3=>(oo (pu 10 [Sl.v 1 s3,(.int .i64 (3:Int)),(.int .i64 (3:Int)),.int .i64 z2]) none fun v2=>(oo (toSl 1 v2) none fun s4=>(oo (pu 10 [Sl.v 1 s2,(.int .i64 (3:Int)),(.int .i64 (3:Int)),.int .i64 z3]) none fun v3=>(oo (toSl 1 v3) none fun s5=>(oo (pu 12 [Sl.v 1 s4,Sl.v 1 s5]) none fun v4=>(oo (vBool v4) none fun b2=>(bb (nt b2) (some (.bool false)) (oo (pu 11 [(.agg ⟨[.int .i64 z4,.int .i64 z5,.int .i64 z6,Sl.v 1 s1]⟩),Sl.v 1 s0,.int .i64 z1]) none fun v5=>(oo (vTup v5) none fun l0=>(ll l0 none fun v6 l0=>(ll l0 none fun v7 l0=>(ll l0 (oo (toSl 1 v6) none fun s6=>(oo (toI .i64 v7) none fun x0=>(bb (nt (ieq x0 (0:Int))) (m6_9 pu n ih0 ih1 z0 s0 b0 z1 z2 z3 s6 true z4 z5 z6 s1 z7 z8 z9 n0 c0 q0) (m6_9 pu n ih0 ih1 z0 s0 b0 z1 z2 z3 s6 (nt (ieq (Int.ofNat (Sl.n s6)) (9:Int))) z4 z5 z6 s1 z7 z8 z9 n0 c0 q0)))) fun _ _=>none)))))))))))))))) none))
def b6_7 (pu:PureF) (n:Nat) (ih0:Int→Sl→Bool→Int→Int→Int→Int→Sl→Int→Int→Int→Nat→Nat→LV→OV) (ih1:Int→Sl→Bool→Int→Int→Int→Int→Int→Sl→Int→Int→Int→Nat→Nat→LV→OV) (z0:Int) (s0:Sl) (b0:Bool) (z1 z2 z3 z4 z5:Int) (s1:Sl) (z6 z7 z8:Int) (n0 c0:Nat) (q0:LV):OV:=
 (bb (allL closed1 q0) (bb (ilt z2 (8:Int)) (oo (pu 24 [.int .i64 z1,.int .i64 z2]) none fun v0=>(oo (vTup v0) none fun l0=>(ll l0 none fun v1 l0=>(ll l0 none fun v2 l0=>(ll l0 (oo (toI .i64 v1) none fun x0=>(oo (toI .i64 v2) none fun x1=>(bb (nt (ieq x1 (0:Int))) (m6_8 pu n ih0 ih1 z0 s0 b0 z1 z2 x0 true z3 z4 z5 s1 z6 z7 z8 n0 c0 q0) (bb (ilt x0 (0:Int)) (m6_8 pu n ih0 ih1 z0 s0 b0 z1 z2 x0 true z3 z4 z5 s1 z6 z7 z8 n0 c0 q0) (m6_8 pu n ih0 ih1 z0 s0 b0 z1 z2 x0 (ilt (7:Int) x0) z3 z4 z5 s1 z6 z7 z8 n0 c0 q0))))) fun _ _=>none))))) (m6_5 pu n ih0 z0 s0 b0 z1 z3 z4 z5 s1 z6 z7 z8 n0 c0 q0)) none)
def l6_7 (pu:PureF) (n:Nat) (ih0:Int→Sl→Bool→Int→Int→Int→Int→Sl→Int→Int→Int→Nat→Nat→LV→OV) (w:Nat):Int→Sl→Bool→Int→Int→Int→Int→Int→Sl→Int→Int→Int→Nat→Nat→LV→OV:=
 Nat.rec (motive:=fun _=>Int→Sl→Bool→Int→Int→Int→Int→Int→Sl→Int→Int→Int→Nat→Nat→LV→OV) (fun _ _ _ _ _ _ _ _ _ _ _ _ _ _ _=>none) (fun _ ih1=>b6_7 pu n ih0 ih1) w
def m6_6 (pu:PureF) (n:Nat) (ih0:Int→Sl→Bool→Int→Int→Int→Int→Sl→Int→Int→Int→Nat→Nat→LV→OV) (z0:Int) (s0:Sl) (b0:Bool) (z1 z2 z3 z4:Int) (s1:Sl) (z5 z6 z7:Int) (n0 c0:Nat) (q0:LV):OV:=
 (bb (allL closed1 q0) (l6_7 pu n ih0 n z0 s0 b0 z1 (0:Int) z2 z3 z4 s1 z5 z6 z7 n0 c0 q0) none)
def b6_4 (pu:PureF) (n:Nat) (ih0:Int→Sl→Bool→Int→Int→Int→Int→Sl→Int→Int→Int→Nat→Nat→LV→OV) (z0:Int) (s0:Sl) (b0:Bool) (z1 z2 z3 z4:Int) (s1:Sl) (z5 z6 z7:Int) (n0 c0:Nat) (q0:LV):OV:=
 (bb (allL closed1 q0) (bb (ilt z1 (8:Int)) (oo (toN z1) none fun k1=>(bb (ieq (aand .u8 (shrI .u8 z0 k1) (1:Int)) (1:Int)) (bb (growC 1 8 n0 c0 1 q0) (bb (allL closed1 (appL (dropL 0 q0) [(.int .i64 (Int.ofNat k1))])) (m6_6 pu n ih0 z0 s0 b0 (Int.ofNat k1) z2 z3 z4 s1 z5 z6 z7 (n0 + 1) (2 * (n0 + 1) + bb false 1 0) (appL (dropL 0 q0) [(.int .i64 (Int.ofNat k1))])) none) none) (m6_6 pu n ih0 z0 s0 b0 (Int.ofNat k1) z2 z3 z4 s1 z5 z6 z7 n0 c0 q0))) (m6_1 pu n b0 z5 z6 z7 n0 c0 q0)) none)
def l6_4 (pu:PureF) (n w:Nat):Int→Sl→Bool→Int→Int→Int→Int→Sl→Int→Int→Int→Nat→Nat→LV→OV:=
 Nat.rec (motive:=fun _=>Int→Sl→Bool→Int→Int→Int→Int→Sl→Int→Int→Int→Nat→Nat→LV→OV) (fun _ _ _ _ _ _ _ _ _ _ _ _ _ _=>none) (fun _ ih0=>b6_4 pu n ih0) w
def m6_0 (pu:PureF) (n:Nat) (z65:Int) (n66 c67:Nat) (q68:LV):OV:=
 (oo (pu 22 [(Sl.v 1 (Sl.mk 8 0 (takeL (8 * 1) (dropL 0 ([(.int .i64 (0:Int)),(.int .i64 (1:Int)),(.int .i64 (2:Int)),(.int .i64 (3:Int)),(.int .i64 (4:Int)),(.int .i64 (5:Int)),(.int .i64 (6:Int)),(.int .i64 (7:Int))]:LV)))))]) none fun v73=>(oo (toSl 1 v73) none fun s75=>(bb (allL closed1 q68) (bb (an (Nat.ble (0 + n66 * 1) (len q68)) (allL closed1 (takeL (n66 * 1) (dropL 0 q68)))) (l6_4 pu n n z65 (Sl.mk n66 0 (takeL (n66 * 1) (dropL 0 q68))) (ieq (aand .u8 z65 (1:Int)) (1:Int)) (0:Int) (3:Int) (3:Int) (4:Int) s75 (3:Int) (3:Int) (4:Int) 0 0 ([]:LV)) none) none)))
def b6_11 (pu:PureF) (n:Nat) (ih0:Int→Nat→Nat→Int→Int→Int→Int→Int→Int→Int→Int→Int→Int→LV→OV) (z0:Int) (n0 c0:Nat) (z1 z2 z3 z4 z5 z6 z7 z8 z9 z10:Int) (q0:LV):OV:=
 (bb (allL closed1 q0) (bb (ilt z10 (9:Int)) (oo (toN z10) none fun k1=>(bb (Nat.blt k1 9) (oo (nthL ([.int .u8 z1,.int .u8 z2,.int .u8 z3,.int .u8 z4,.int .u8 z5,.int .u8 z6,.int .u8 z7,.int .u8 z8,.int .u8 z9]:LV) (k1 * 1)) none fun v0=>(oo (toI .u8 v0) none fun x0=>(bb (growC 1 8 n0 c0 1 q0) (bb (allL closed1 (appL (dropL 0 q0) [(.int .i64 (Int.tmod (wrapF .i64 x0) (4:Int)))])) (ih0 z0 (n0 + 1) (2 * (n0 + 1) + bb false 1 0) z1 z2 z3 z4 z5 z6 z7 z8 z9 (wrapF .i64 (Int.add (Int.ofNat k1) (1:Int))) (appL (dropL 0 q0) [(.int .i64 (Int.tmod (wrapF .i64 x0) (4:Int)))])) none) none))) none)) (m6_0 pu n z0 n0 c0 q0)) none)
def l6_11 (pu:PureF) (n w:Nat):Int→Nat→Nat→Int→Int→Int→Int→Int→Int→Int→Int→Int→Int→LV→OV:=
 Nat.rec (motive:=fun _=>Int→Nat→Nat→Int→Int→Int→Int→Int→Int→Int→Int→Int→Int→LV→OV) (fun _ _ _ _ _ _ _ _ _ _ _ _ _ _=>none) (fun _ ih0=>b6_11 pu n ih0) w
def m6_ (pu:PureF) (n:Nat) (x12 x14 x16 x18 x20 x22 x24 x26 x28 x30:Int):OV:=
 (l6_11 pu n n x30 0 0 x12 x14 x16 x18 x20 x22 x24 x26 x28 (0:Int) ([]:LV))
def m6 (pu:PureF) (n:Nat) (args:LV):OV:=
 (ll args none fun a0 args=>(ll args none fun a1 args=>(ll args (oo (vAgg a0) none fun l1=>(ll l1 none fun v3 l1=>(ll l1 none fun v4 l1=>(ll l1 none fun v5 l1=>(ll l1 none fun v6 l1=>(ll l1 none fun v7 l1=>(ll l1 none fun v8 l1=>(ll l1 none fun v9 l1=>(ll l1 none fun v10 l1=>(ll l1 none fun v11 l1=>(ll l1 (oo (toI .u8 v3) none fun x12=>(oo (toI .u8 v4) none fun x14=>(oo (toI .u8 v5) none fun x16=>(oo (toI .u8 v6) none fun x18=>(oo (toI .u8 v7) none fun x20=>(oo (toI .u8 v8) none fun x22=>(oo (toI .u8 v9) none fun x24=>(oo (toI .u8 v10) none fun x26=>(oo (toI .u8 v11) none fun x28=>(oo (toI .u8 a1) none fun x30=>(m6_ pu n x12 x14 x16 x18 x20 x22 x24 x26 x28 x30))))))))))) fun _ _=>none))))))))))) fun _ _=>none)))
theorem w6_3 (pu:PureF) (n:Nat) (b0:Bool) {v:Value} (hm:m6_3 pu n b0 = some v):Run tt (callP tabs isP pu (inl pu)) 1 .ret (fr 158 [(4,zB b0)]) (hp 1 [(oT tab0)]) (Fin tt 1 [.tmp 4] v):=by
 unfold m6_3 at hm
 refine .ret ?_
 exact fin_ret (zB b0) (by kernel_rfl) (by kernel_rfl) hm
theorem w6_2 (pu:PureF) (n:Nat) (z0 z1 z2 z3:Int) (n0 c0:Nat) (q0:LV) {v:Value} (hm:m6_2 pu n z0 z1 z2 z3 n0 c0 q0 = some v):Run tt (callP tabs isP pu (inl pu)) 1 c6_87 (fr 158 [(9,pt 1 0),(22,zI z0)]) (hT 3 [(oC [zI z1,zI z2,zI z3,sc 2 0 1 n0 c0]),oC q0]) (Fin tt 1 [.tmp 4] v):=by
 unfold m6_2 at hm
 refine .join (v:=v) (fun y:Bool=>((fr 158 [(4,zB y)]),(hp 1 [(oT tab0)]))) (fun y=>m6_3 pu n y) ?_ ?_
 ·rintro b0 hm
  exact w6_3 pu n b0 hm
 ·replace hm := bb_inv hm; obtain ⟨h0, hm⟩ := hm
  refine .ghs (fr 158 [(9,pt 1 0),(22,zI z0)]) (hT 3 [(oC [zI z1,zI z2,zI z3,(Sl.v 1 (Sl.mk n0 0 (takeL (n0 * 1) (dropL 0 q0))))]),.dead]) (.frzC 1 1 3 [zI z1,zI z2,zI z3,sc 2 0 1 n0 c0] (an (Nat.ble (0 + n0 * 1) (len q0)) (allL closed1 (takeL (n0 * 1) (dropL 0 q0)))) (v:=(sc 2 0 1 n0 c0)) (v':=(Sl.v 1 (Sl.mk n0 0 (takeL (n0 * 1) (dropL 0 q0))))) (H1:=(hT 3 [(oC [zI z1,zI z2,zI z3,sc 2 0 1 n0 c0]),.dead])) (imm:=false) (spent:=false) (anc:=[]) h0 (GhS.id _ _)) ?_
  replace hm:=oo_inv hm;obtain ⟨v0,h1,hm⟩:=hm
  replace hm:=inv_vTup hm;obtain ⟨l0,rfl,hm⟩:=hm
  replace hm:=ll_uncons hm;obtain ⟨v1,l1323_0,rfl,hm⟩:=hm
  replace hm:=ll_end hm;obtain ⟨rfl,hm⟩:=hm
  replace hm:=inv_toI hm;obtain ⟨x0,rfl,hm⟩:=hm
  replace hm:=bb_cases hm;rcases hm with ⟨h2,hm⟩ | ⟨h2,hm⟩
  ·replace hm := oo_inv hm; obtain ⟨v2, h3, hm⟩ := hm
   replace hm:=inv_vBool hm;obtain ⟨b1,rfl,hm⟩:=hm
   refine .reg (eC 1 (objG tabs [[none,none,none,some 1]] 1 [] [] (pu 10250) [(.agg ⟨[zI z1,zI z2,zI z3,(Sl.v 1 (Sl.mk n0 0 (takeL (n0 * 1) (dropL 0 q0))))]⟩)] (hT 3 [(oC [zI z1,zI z2,zI z3,(Sl.v 1 (Sl.mk n0 0 (takeL (n0 * 1) (dropL 0 q0))))]),.dead])) (objG_eq (as:=[(.agg ⟨[zI z1,zI z2,zI z3,(Sl.v 1 (Sl.mk n0 0 (takeL (n0 * 1) (dropL 0 q0))))]⟩)]) (H1:=(hT 3 [(oC [zI z1,zI z2,zI z3,(Sl.v 1 (Sl.mk n0 0 (takeL (n0 * 1) (dropL 0 q0))))]),.dead])) (gvAL_c (gvA_a (gvL_c gv_n (gvL_c gv_n (gvL_c gv_n (gvL_c (gv_s (giveV_cl (z:=1) (v:=(Sl.v 1 (Sl.mk n0 0 (takeL (n0 * 1) (dropL 0 q0))))) (H:=(hT 3 [(oC [zI z1,zI z2,zI z3,(Sl.v 1 (Sl.mk n0 0 (takeL (n0 * 1) (dropL 0 q0))))]),.dead])) (by kernel_rfl) (by kernel_rfl) (by kernel_rfl))) gvL_n))))) gvAL_n) (objF_eq (H2:=(hT 3 [(oC [zI z1,zI z2,zI z3,(Sl.v 1 (Sl.mk n0 0 (takeL (n0 * 1) (dropL 0 q0))))]),.dead])) (v:=(zI x0)) (v':=(zI x0)) [some 0] [] [] [(.agg ⟨[zI z1,zI z2,zI z3,(Sl.v 1 (Sl.mk n0 0 (takeL (n0 * 1) (dropL 0 q0))))]⟩)] [] [] [some 0,none,none] [] [] (by kernel_rfl) mapO_n (Eq.trans (by kernel_rfl) h1) mapO_n mapO_n)) (eC 1 (some ((zB (ieq x0 z0)),(hT 3 [(oC [zI z1,zI z2,zI z3,(Sl.v 1 (Sl.mk n0 0 (takeL (n0 * 1) (dropL 0 q0))))]),.dead]))) (show _ = some ((zB true),_) from (by rw [show (ieq x0 z0) = true from h2])) (eC 1 ((oo (pu 19 []) none fun v=>some (v,(hT 3 [(oC [zI z1,zI z2,zI z3,(Sl.v 1 (Sl.mk n0 0 (takeL (n0 * 1) (dropL 0 q0))))]),.dead])))) (call_eq h3) (eE)))) ?_
   exact ⟨b1,hm,(.k0 [false] [] [4])⟩
  ·refine .reg (eC 1 (objG tabs [[none, none, none, some 1]] 1 [] [] (pu 10250) [(.agg ⟨[zI z1, zI z2, zI z3, (Sl.v 1 (Sl.mk n0 0 (takeL (n0 * 1) (dropL 0 q0))))]⟩)] (hT 3 [(oC [zI z1, zI z2, zI z3, (Sl.v 1 (Sl.mk n0 0 (takeL (n0 * 1) (dropL 0 q0))))]), .dead])) (objG_eq (as := [(.agg ⟨[zI z1, zI z2, zI z3, (Sl.v 1 (Sl.mk n0 0 (takeL (n0 * 1) (dropL 0 q0))))]⟩)]) (H1 := (hT 3 [(oC [zI z1, zI z2, zI z3, (Sl.v 1 (Sl.mk n0 0 (takeL (n0 * 1) (dropL 0 q0))))]), .dead])) (gvAL_c (gvA_a (gvL_c gv_n (gvL_c gv_n (gvL_c gv_n (gvL_c (gv_s (giveV_cl (z := 1) (v := (Sl.v 1 (Sl.mk n0 0 (takeL (n0 * 1) (dropL 0 q0))))) (H := (hT 3 [(oC [zI z1, zI z2, zI z3, (Sl.v 1 (Sl.mk n0 0 (takeL (n0 * 1) (dropL 0 q0))))]), .dead])) (by kernel_rfl) (by kernel_rfl) (by kernel_rfl))) gvL_n))))) gvAL_n) (objF_eq (H2 := (hT 3 [(oC [zI z1, zI z2, zI z3, (Sl.v 1 (Sl.mk n0 0 (takeL (n0 * 1) (dropL 0 q0))))]), .dead])) (v := (zI x0)) (v' := (zI x0)) [some 0] [] [] [(.agg ⟨[zI z1, zI z2, zI z3, (Sl.v 1 (Sl.mk n0 0 (takeL (n0 * 1) (dropL 0 q0))))]⟩)] [] [] [some 0, none, none] [] [] (by kernel_rfl) mapO_n (Eq.trans (by kernel_rfl) h1) mapO_n mapO_n)) (eC 1 (some ((zB (ieq x0 z0)), (hT 3 [(oC [zI z1, zI z2, zI z3, (Sl.v 1 (Sl.mk n0 0 (takeL (n0 * 1) (dropL 0 q0))))]), .dead]))) (show _ = some ((zB false), _) from (by rw [show (ieq x0 z0) = false from h2])) (eE))) ?_
   exact ⟨false,hm,(.k0 [false] [] [4])⟩
theorem w6_1 (pu:PureF) (n:Nat) (b0:Bool) (z0 z1 z2:Int) (n0 c0:Nat) (q0:LV) {v:Value} (hm:m6_1 pu n b0 z0 z1 z2 n0 c0 q0 = some v):Run tt (callP tabs isP pu (inl pu)) 1 c6_89 (fr 158 [(9,pt 1 0),(10,zB b0)]) (hT 3 [(oC [zI z0,zI z1,zI z2,sc 2 0 1 n0 c0]),oC q0]) (Fin tt 1 [.tmp 4] v):=by
 unfold m6_1 at hm
 refine .then (.rK ?_)
 replace hm:=bb_inv hm;obtain ⟨h0,hm⟩:=hm
 refine .ghs (fr 158 [(9,pt 1 0),(10,zB b0),(22,(zI (21:Int)))]) (hT 3 [(oC [zI z0,zI z1,zI z2,sc 2 0 1 n0 c0]),oC q0]) (.k [2] [false] [.tmp 9 true,.cell 1 3 false] [9,10,22] ⟨trF h0,trivial⟩) ?_
 refine .join (v:=v) (fun y:Int×Int×Int×Int×Nat×Nat×LV=>((fr 158 [(9,pt 1 0),(22,(zI y.1))]),(hT 3 [(oC [(zI y.2.1),(zI y.2.2.1),(zI y.2.2.2.1),(sc 2 0 1 y.2.2.2.2.1 y.2.2.2.2.2.1)]),(oC y.2.2.2.2.2.2)]))) (fun y=>m6_2 pu n y.1 y.2.1 y.2.2.1 y.2.2.2.1 y.2.2.2.2.1 y.2.2.2.2.2.1 y.2.2.2.2.2.2) ?_ ?_
 ·rintro ⟨z3, z4, z5, z6, n1, c1, q1⟩ hm
  exact w6_2 pu n z3 z4 z5 z6 n1 c1 q1 hm
 ·refine .then (.rK ?_)
  refine .ghs (fr 158 [(9,pt 1 0),(22,(zI (21:Int))),(150,zB b0)]) (hT 3 [(oC [zI z0,zI z1,zI z2,sc 2 0 1 n0 c0]),oC q0]) (.k [2] [false] [.tmp 9 true,.cell 1 3 false] [9,22,150] ⟨trF h0,trivial⟩) ?_
  replace hm:=bb_cases hm;rcases hm with ⟨h1,hm⟩ | ⟨h1,hm⟩
  ·refine .ifT b0 (by kernel_rfl) h1 ?_
   refine .rK ?_
   exact ⟨((0:Int),z0,z1,z2,n0,c0,q0),hm,(.k [2] [false] [.tmp 9 true,.cell 1 3 false] [9,22] ⟨trF h0,trivial⟩)⟩
  ·refine .ifF b0 (by kernel_rfl) h1 ?_
   refine .skip ?_
   exact ⟨((21:Int),z0,z1,z2,n0,c0,q0),hm,(.k [2] [false] [.tmp 9 true,.cell 1 3 false] [9,22] ⟨trF h0,trivial⟩)⟩
theorem w6_0 (pu:PureF) (n:Nat) (z65:Int) (n66 c67:Nat) (q68:LV) {v:Value} (hm:m6_0 pu n z65 n66 c67 q68 = some v):Run tt (callP tabs isP pu (inl pu)) 1 c6_93 (fr 158 [(1,(zY z65)),(5,sc 1 0 1 n66 c67)]) (hT 2 [oC q68]) (Fin tt 1 [.tmp 4] v):=by
 unfold m6_0 at hm
 refine .then ?_
 replace hm:=oo_inv hm;obtain ⟨v73,h74,hm⟩:=hm
 replace hm:=inv_toSl hm;obtain ⟨s75,rfl,hm⟩:=hm
 refine .reg (eC 1 (giveF tabs 1 (pu 22) [sc 2 0 1 8 17] (hT 3 [oC q68,(oC [(zI (0:Int)),(zI (1:Int)),(zI (2:Int)),(zI (3:Int)),(zI (4:Int)),(zI (5:Int)),(zI (6:Int)),(zI (7:Int))])])) (giveF_eq (giveL_cons (show giveV 1 (sc 2 0 1 8 17) (hT 3 [oC q68,(oC [(zI (0:Int)),(zI (1:Int)),(zI (2:Int)),(zI (3:Int)),(zI (4:Int)),(zI (5:Int)),(zI (6:Int)),(zI (7:Int))])]) = some ((Sl.v 1 (Sl.mk 8 0 (takeL (8 * 1) (dropL 0 ([(zI (0:Int)),(zI (1:Int)),(zI (2:Int)),(zI (3:Int)),(zI (4:Int)),(zI (5:Int)),(zI (6:Int)),(zI (7:Int))]:LV))))),(hT 3 [oC q68,.dead])) from giveV_sl 2 0 1 8 17 ([(zI (0:Int)),(zI (1:Int)),(zI (2:Int)),(zI (3:Int)),(zI (4:Int)),(zI (5:Int)),(zI (6:Int)),(zI (7:Int))]:LV) [] (by kernel_rfl) (by kernel_rfl) (by kernel_rfl)) giveL_nil) (by kernel_rfl) h74) (eE)) ?_
 replace hm:=bb_inv hm;obtain ⟨h77,hm⟩:=hm
 refine .ghs (fr 158 [(1,(zY z65)),(5,sc 1 0 1 n66 c67),(8,(pt 2 0))]) (hT 3 [oC q68,(oC [(zI (3:Int)),(zI (3:Int)),(zI (4:Int)),Sl.v 1 s75])]) (.k [1] [false] [.tmp 5 false,.tmp 8 false] [1,5,8] ⟨trF h77,trivial⟩) ?_
 refine .then (.rK ?_)
 refine .ghs (fr 158 [(1,(zY z65)),(5,sc 1 0 1 n66 c67),(8,(pt 2 0)),(9,(pt 3 0))]) (hT 4 [oC q68,(oC [(zI (3:Int)),(zI (3:Int)),(zI (4:Int)),Sl.v 1 s75]),(oC [(zI (3:Int)),(zI (3:Int)),(zI (4:Int)),(.slice none 0 0)])]) (.k [1] [false] [.tmp 5 false,.tmp 8 false,.tmp 9 false] [1,5,8,9] ⟨trF h77,trivial⟩) ?_
 refine .then (.rK ?_)
 refine .ghs (fr 158 [(1,(zY z65)),(5,sc 1 0 1 n66 c67),(8,(pt 2 0)),(9,(pt 3 0)),(10,(zB (ieq (aand .u8 z65 (1:Int)) (1:Int))))]) (hT 4 [oC q68,(oC [(zI (3:Int)),(zI (3:Int)),(zI (4:Int)),Sl.v 1 s75]),(oC [(zI (3:Int)),(zI (3:Int)),(zI (4:Int)),(.slice none 0 0)])]) (.k [1] [false] [.tmp 5 false,.tmp 8 false,.tmp 9 false] [1,5,8,9,10] ⟨trF h77,trivial⟩) ?_
 refine .join (v:=v) (fun y:Bool×Int×Int×Int×Nat×Nat×LV=>((fr 158 [(9,pt 1 0),(10,(zB y.1))]),(hT 3 [(oC [(zI y.2.1),(zI y.2.2.1),(zI y.2.2.2.1),(sc 2 0 1 y.2.2.2.2.1 y.2.2.2.2.2.1)]),(oC y.2.2.2.2.2.2)]))) (fun y=>m6_1 pu n y.1 y.2.1 y.2.2.1 y.2.2.2.1 y.2.2.2.2.1 y.2.2.2.2.2.1 y.2.2.2.2.2.2) ?_ ?_
 ·rintro ⟨b0, z0, z1, z2, n0, c0, q0⟩ hm
  exact w6_1 pu n b0 z0 z1 z2 n0 c0 q0 hm
 ·refine .then (.rK ?_)
  refine .ghs (fr 158 [(1,(zY z65)),(5,sc 1 0 1 n66 c67),(8,(pt 2 0)),(9,(pt 3 0)),(10,(zB (ieq (aand .u8 z65 (1:Int)) (1:Int)))),(11,(zI (0:Int)))]) (hT 4 [oC q68,(oC [(zI (3:Int)),(zI (3:Int)),(zI (4:Int)),Sl.v 1 s75]),(oC [(zI (3:Int)),(zI (3:Int)),(zI (4:Int)),(.slice none 0 0)])]) (.k [1] [false] [.tmp 5 false,.tmp 8 false,.tmp 9 false] [1,5,8,9,10,11] ⟨trF h77,trivial⟩) ?_
  refine .block ?_
  replace hm:=bb_inv hm;obtain ⟨h0,hm⟩:=hm
  refine .loopM (v:=v) (fun y:Int×Sl×Bool×Int×Int×Int×Int×Sl×Int×Int×Int×Nat×Nat×LV=>((fr 158 [(1,(zY y.1)),(5,(Sl.v 1 y.2.1)),(8,pt 1 0),(9,(pt 2 0)),(10,(zB y.2.2.1)),(11,(zI y.2.2.2.1))]),(hT 4 [(oC [(zI y.2.2.2.2.1),(zI y.2.2.2.2.2.1),(zI y.2.2.2.2.2.2.1),(Sl.v 1 y.2.2.2.2.2.2.2.1)]),(oC [(zI y.2.2.2.2.2.2.2.2.1),(zI y.2.2.2.2.2.2.2.2.2.1),(zI y.2.2.2.2.2.2.2.2.2.2.1),(sc 3 0 1 y.2.2.2.2.2.2.2.2.2.2.2.1 y.2.2.2.2.2.2.2.2.2.2.2.2.1)]),(oC y.2.2.2.2.2.2.2.2.2.2.2.2.2)]))) (fun w y=>l6_4 pu n w y.1 y.2.1 y.2.2.1 y.2.2.2.1 y.2.2.2.2.1 y.2.2.2.2.2.1 y.2.2.2.2.2.2.1 y.2.2.2.2.2.2.2.1 y.2.2.2.2.2.2.2.2.1 y.2.2.2.2.2.2.2.2.2.1 y.2.2.2.2.2.2.2.2.2.2.1 y.2.2.2.2.2.2.2.2.2.2.2.1 y.2.2.2.2.2.2.2.2.2.2.2.2.1 y.2.2.2.2.2.2.2.2.2.2.2.2.2) n ⟨(z65,(Sl.mk n66 0 (takeL (n66 * 1) (dropL 0 q68))),(ieq (aand .u8 z65 (1:Int)) (1:Int)),(0:Int),(3:Int),(3:Int),(4:Int),s75,(3:Int),(3:Int),(4:Int),0,0,([]:LV)),hm,(.freezeC 1 5 1 (an (Nat.ble (0 + n66 * 1) (len q68)) (allL closed1 (takeL (n66 * 1) (dropL 0 q68)))) (F1:=(Fr.puts (fr 158 [(1,(zY z65)),(5,sc 1 0 1 n66 c67),(8,(pt 2 0)),(9,(pt 3 0)),(10,(zB (ieq (aand .u8 z65 (1:Int)) (1:Int)))),(11,(zI (0:Int)))]) [(5,(Sl.v 1 (Sl.mk n66 0 (takeL (n66 * 1) (dropL 0 q68)))))])) (H1:=(hT 4 [.dead,(oC [(zI (3:Int)),(zI (3:Int)),(zI (4:Int)),Sl.v 1 s75]),(oC [(zI (3:Int)),(zI (3:Int)),(zI (4:Int)),(.slice none 0 0)])])) (by kernel_rfl) (by kernel_rfl) h0 (.thawC 3 3 1 [(zI (3:Int)),(zI (3:Int)),(zI (4:Int)),(.slice none 0 0)] (imm:=false) (spent:=false) (anc:=[]) (by kernel_rfl) (by kernel_rfl) (by kernel_rfl) (by kernel_rfl) (.k0 [false] [.tmp 8 false,.tmp 9 true,.cell 2 3 false] [1,5,8,9,10,11])))⟩ (fun _=>rfl) ?_
  rintro w0 ⟨z3,s0,b1,z4,z5,z6,z7,s1,z8,z9,z10,n1,c1,q1⟩ hm
  replace hm:b6_4 pu n (l6_4 pu n w0) z3 s0 b1 z4 z5 z6 z7 s1 z8 z9 z10 n1 c1 q1 = some v:=hm
  unfold b6_4 at hm
  refine .then ?_
  refine .then (.rK ?_)
  replace hm:=bb_inv hm;obtain ⟨h1,hm⟩:=hm
  refine .ghs (fr 158 [(1,(zY z3)),(5,Sl.v 1 s0),(8,pt 1 0),(9,(pt 2 0)),(10,zB b1),(11,zI z4),(42,(zB (ilt z4 (8:Int))))]) (hT 4 [(oC [zI z5,zI z6,zI z7,Sl.v 1 s1]),(oC [zI z8,zI z9,zI z10,sc 3 0 1 n1 c1]),oC q1]) (.k [3] [false] [.tmp 8 false,.tmp 9 true,.cell 2 3 false] [1,5,8,9,10,11,42] ⟨trF h1,trivial⟩) ?_
  replace hm:=bb_cases hm;rcases hm with ⟨h2,hm⟩ | ⟨h2,hm⟩
  ·refine .ifT (ilt z4 (8 : Int)) (by kernel_rfl) h2 ?_
   refine .skip ?_
   refine .ghs (fr 158 [(1,(zY z3)),(5,Sl.v 1 s0),(8,pt 1 0),(9,(pt 2 0)),(10,zB b1),(11,zI z4)]) (hT 4 [(oC [zI z5,zI z6,zI z7,Sl.v 1 s1]),(oC [zI z8,zI z9,zI z10,sc 3 0 1 n1 c1]),oC q1]) (.k [3] [false] [.tmp 8 false,.tmp 9 true,.cell 2 3 false] [1,5,8,9,10,11] ⟨trF h1,trivial⟩) ?_
   refine .join (v:=v) (fun y:Int×Sl×Bool×Int×Int×Int×Int×Sl×Int×Int×Int×Nat×Nat×LV=>((fr 158 [(1,(zY y.1)),(5,(Sl.v 1 y.2.1)),(8,pt 1 0),(9,(pt 2 0)),(10,(zB y.2.2.1)),(11,(zI y.2.2.2.1))]),(hT 4 [(oC [(zI y.2.2.2.2.1),(zI y.2.2.2.2.2.1),(zI y.2.2.2.2.2.2.1),(Sl.v 1 y.2.2.2.2.2.2.2.1)]),(oC [(zI y.2.2.2.2.2.2.2.2.1),(zI y.2.2.2.2.2.2.2.2.2.1),(zI y.2.2.2.2.2.2.2.2.2.2.1),(sc 3 0 1 y.2.2.2.2.2.2.2.2.2.2.2.1 y.2.2.2.2.2.2.2.2.2.2.2.2.1)]),(oC y.2.2.2.2.2.2.2.2.2.2.2.2.2)]))) (fun y=>m6_5 pu n (l6_4 pu n w0) y.1 y.2.1 y.2.2.1 y.2.2.2.1 y.2.2.2.2.1 y.2.2.2.2.2.1 y.2.2.2.2.2.2.1 y.2.2.2.2.2.2.2.1 y.2.2.2.2.2.2.2.2.1 y.2.2.2.2.2.2.2.2.2.1 y.2.2.2.2.2.2.2.2.2.2.1 y.2.2.2.2.2.2.2.2.2.2.2.1 y.2.2.2.2.2.2.2.2.2.2.2.2.1 y.2.2.2.2.2.2.2.2.2.2.2.2.2) ?_ ?_
   ·rintro ⟨z11, s2, b2, z12, z13, z14, z15, s3, z16, z17, z18, n2, c2, q2⟩ hm
    unfold m6_5 at hm
    refine .rK ?_
    replace hm:=bb_inv hm;obtain ⟨h3,hm⟩:=hm
    exact ⟨(z11,s2,b2,(wrapF .i64 (Int.add z12 (1:Int))),z13,z14,z15,s3,z16,z17,z18,n2,c2,q2),hm,(.k [3] [false] [.tmp 8 false,.tmp 9 true,.cell 2 3 false] [1,5,8,9,10,11] ⟨trF h3,trivial⟩)⟩
   ·refine .block ?_
    refine .join (v:=v) (fun y:Int×Sl×Bool×Int×Int×Int×Int×Sl×Int×Int×Int×Nat×Nat×LV=>((fr 158 [(1,(zY y.1)),(5,(Sl.v 1 y.2.1)),(8,pt 1 0),(9,(pt 2 0)),(10,(zB y.2.2.1)),(11,(zI y.2.2.2.1))]),(hT 4 [(oC [(zI y.2.2.2.2.1),(zI y.2.2.2.2.2.1),(zI y.2.2.2.2.2.2.1),(Sl.v 1 y.2.2.2.2.2.2.2.1)]),(oC [(zI y.2.2.2.2.2.2.2.2.1),(zI y.2.2.2.2.2.2.2.2.2.1),(zI y.2.2.2.2.2.2.2.2.2.2.1),(sc 3 0 1 y.2.2.2.2.2.2.2.2.2.2.2.1 y.2.2.2.2.2.2.2.2.2.2.2.2.1)]),(oC y.2.2.2.2.2.2.2.2.2.2.2.2.2)]))) (fun y=>m6_6 pu n (l6_4 pu n w0) y.1 y.2.1 y.2.2.1 y.2.2.2.1 y.2.2.2.2.1 y.2.2.2.2.2.1 y.2.2.2.2.2.2.1 y.2.2.2.2.2.2.2.1 y.2.2.2.2.2.2.2.2.1 y.2.2.2.2.2.2.2.2.2.1 y.2.2.2.2.2.2.2.2.2.2.1 y.2.2.2.2.2.2.2.2.2.2.2.1 y.2.2.2.2.2.2.2.2.2.2.2.2.1 y.2.2.2.2.2.2.2.2.2.2.2.2.2) ?_ ?_
    ·rintro ⟨z19, s4, b3, z20, z21, z22, z23, s5, z24, z25, z26, n3, c3, q3⟩ hm
     unfold m6_6 at hm
     refine .then (.rK ?_)
     replace hm:=bb_inv hm;obtain ⟨h4,hm⟩:=hm
     refine .ghs (fr 158 [(1,(zY z19)),(5,Sl.v 1 s4),(8,pt 1 0),(9,(pt 2 0)),(10,zB b3),(11,zI z20),(12,(zI (0:Int)))]) (hT 4 [(oC [zI z21,zI z22,zI z23,Sl.v 1 s5]),(oC [zI z24,zI z25,zI z26,sc 3 0 1 n3 c3]),oC q3]) (.k [3] [false] [.tmp 8 false,.tmp 9 true,.cell 2 3 false] [1,5,8,9,10,11,12] ⟨trF h4,trivial⟩) ?_
     refine .block ?_
     refine .loopM (v:=v) (fun y:Int×Sl×Bool×Int×Int×Int×Int×Int×Sl×Int×Int×Int×Nat×Nat×LV=>((fr 158 [(1,(zY y.1)),(5,(Sl.v 1 y.2.1)),(8,pt 1 0),(9,(pt 2 0)),(10,(zB y.2.2.1)),(11,(zI y.2.2.2.1)),(12,(zI y.2.2.2.2.1))]),(hT 4 [(oC [(zI y.2.2.2.2.2.1),(zI y.2.2.2.2.2.2.1),(zI y.2.2.2.2.2.2.2.1),(Sl.v 1 y.2.2.2.2.2.2.2.2.1)]),(oC [(zI y.2.2.2.2.2.2.2.2.2.1),(zI y.2.2.2.2.2.2.2.2.2.2.1),(zI y.2.2.2.2.2.2.2.2.2.2.2.1),(sc 3 0 1 y.2.2.2.2.2.2.2.2.2.2.2.2.1 y.2.2.2.2.2.2.2.2.2.2.2.2.2.1)]),(oC y.2.2.2.2.2.2.2.2.2.2.2.2.2.2)]))) (fun w y=>l6_7 pu n (l6_4 pu n w0) w y.1 y.2.1 y.2.2.1 y.2.2.2.1 y.2.2.2.2.1 y.2.2.2.2.2.1 y.2.2.2.2.2.2.1 y.2.2.2.2.2.2.2.1 y.2.2.2.2.2.2.2.2.1 y.2.2.2.2.2.2.2.2.2.1 y.2.2.2.2.2.2.2.2.2.2.1 y.2.2.2.2.2.2.2.2.2.2.2.1 y.2.2.2.2.2.2.2.2.2.2.2.2.1 y.2.2.2.2.2.2.2.2.2.2.2.2.2.1 y.2.2.2.2.2.2.2.2.2.2.2.2.2.2) n ⟨(z19,s4,b3,z20,(0:Int),z21,z22,z23,s5,z24,z25,z26,n3,c3,q3),hm,(.k [3] [false] [.tmp 8 false,.tmp 9 true,.cell 2 3 false] [1,5,8,9,10,11,12] ⟨trF h4,trivial⟩)⟩ (fun _=>rfl) ?_
     rintro w1 ⟨z27,s6,b4,z28,z29,z30,z31,z32,s7,z33,z34,z35,n4,c4,q4⟩ hm
     replace hm:b6_7 pu n (l6_4 pu n w0) (l6_7 pu n (l6_4 pu n w0) w1) z27 s6 b4 z28 z29 z30 z31 z32 s7 z33 z34 z35 n4 c4 q4 = some v:=hm
     unfold b6_7 at hm
     refine .then ?_
     refine .then (.rK ?_)
     replace hm:=bb_inv hm;obtain ⟨h5,hm⟩:=hm
     refine .ghs (fr 158 [(1,(zY z27)),(5,Sl.v 1 s6),(8,pt 1 0),(9,(pt 2 0)),(10,zB b4),(11,zI z28),(12,zI z29),(57,(zB (ilt z29 (8:Int))))]) (hT 4 [(oC [zI z30,zI z31,zI z32,Sl.v 1 s7]),(oC [zI z33,zI z34,zI z35,sc 3 0 1 n4 c4]),oC q4]) (.k [3] [false] [.tmp 8 false,.tmp 9 true,.cell 2 3 false] [1,5,8,9,10,11,12,57] ⟨trF h5,trivial⟩) ?_
     replace hm:=bb_cases hm;rcases hm with ⟨h6,hm⟩ | ⟨h6,hm⟩
     ·refine .ifT (ilt z29 (8 : Int)) (by kernel_rfl) h6 ?_
      refine .skip ?_
      refine .ghs (fr 158 [(1,(zY z27)),(5,Sl.v 1 s6),(8,pt 1 0),(9,(pt 2 0)),(10,zB b4),(11,zI z28),(12,zI z29)]) (hT 4 [(oC [zI z30,zI z31,zI z32,Sl.v 1 s7]),(oC [zI z33,zI z34,zI z35,sc 3 0 1 n4 c4]),oC q4]) (.k [3] [false] [.tmp 8 false,.tmp 9 true,.cell 2 3 false] [1,5,8,9,10,11,12] ⟨trF h5,trivial⟩) ?_
      refine .then ?_
      refine .block ?_
      refine .then ?_
      replace hm:=oo_inv hm;obtain ⟨v0,h7,hm⟩:=hm
      replace hm:=inv_vTup hm;obtain ⟨l0,rfl,hm⟩:=hm
      replace hm:=ll_uncons hm;obtain ⟨v1,l2277_0,rfl,hm⟩:=hm
      replace hm:=ll_uncons hm;obtain ⟨v2,l2277_1,rfl,hm⟩:=hm
      replace hm:=ll_end hm;obtain ⟨rfl,hm⟩:=hm
      replace hm:=inv_toI hm;obtain ⟨x0,rfl,hm⟩:=hm
      replace hm:=inv_toI hm;obtain ⟨x1,rfl,hm⟩:=hm
      refine .reg (eC 2 ((oo (pu 24 [zI z28,zI z29]) none fun v=>some (v,(hT 4 [(oC [zI z30,zI z31,zI z32,Sl.v 1 s7]),(oC [zI z33,zI z34,zI z35,sc 3 0 1 n4 c4]),oC q4])))) (call_eq h7) (eE)) ?_
      refine .ghs (fr 158 [(1,(zY z27)),(5,Sl.v 1 s6),(8,pt 1 0),(9,(pt 2 0)),(10,zB b4),(11,zI z28),(12,zI z29),(13,zI x0),(14,zI x1)]) (hT 4 [(oC [zI z30,zI z31,zI z32,Sl.v 1 s7]),(oC [zI z33,zI z34,zI z35,sc 3 0 1 n4 c4]),oC q4]) (.k [3] [false] [.tmp 8 false,.tmp 9 true,.cell 2 3 false] [1,5,8,9,10,11,12,13,14] ⟨trF h5,trivial⟩) ?_
      refine .then ?_
      refine .join (v:=v) (fun y:Int×Sl×Bool×Int×Int×Int×Bool×Int×Int×Int×Sl×Int×Int×Int×Nat×Nat×LV=>((fr 158 [(1,(zY y.1)),(5,(Sl.v 1 y.2.1)),(8,pt 1 0),(9,(pt 2 0)),(10,(zB y.2.2.1)),(11,(zI y.2.2.2.1)),(12,(zI y.2.2.2.2.1)),(13,(zI y.2.2.2.2.2.1)),(75,(zB y.2.2.2.2.2.2.1))]),(hT 4 [(oC [(zI y.2.2.2.2.2.2.2.1),(zI y.2.2.2.2.2.2.2.2.1),(zI y.2.2.2.2.2.2.2.2.2.1),(Sl.v 1 y.2.2.2.2.2.2.2.2.2.2.1)]),(oC [(zI y.2.2.2.2.2.2.2.2.2.2.2.1),(zI y.2.2.2.2.2.2.2.2.2.2.2.2.1),(zI y.2.2.2.2.2.2.2.2.2.2.2.2.2.1),(sc 3 0 1 y.2.2.2.2.2.2.2.2.2.2.2.2.2.2.1 y.2.2.2.2.2.2.2.2.2.2.2.2.2.2.2.1)]),(oC y.2.2.2.2.2.2.2.2.2.2.2.2.2.2.2.2)]))) (fun y=>m6_8 pu n (l6_4 pu n w0) (l6_7 pu n (l6_4 pu n w0) w1) y.1 y.2.1 y.2.2.1 y.2.2.2.1 y.2.2.2.2.1 y.2.2.2.2.2.1 y.2.2.2.2.2.2.1 y.2.2.2.2.2.2.2.1 y.2.2.2.2.2.2.2.2.1 y.2.2.2.2.2.2.2.2.2.1 y.2.2.2.2.2.2.2.2.2.2.1 y.2.2.2.2.2.2.2.2.2.2.2.1 y.2.2.2.2.2.2.2.2.2.2.2.2.1 y.2.2.2.2.2.2.2.2.2.2.2.2.2.1 y.2.2.2.2.2.2.2.2.2.2.2.2.2.2.1 y.2.2.2.2.2.2.2.2.2.2.2.2.2.2.2.1 y.2.2.2.2.2.2.2.2.2.2.2.2.2.2.2.2) ?_ ?_
      ·rintro ⟨z36, s9, b5, z37, z38, z39, b7, z40, z41, z42, s10, z43, z44, z45, n5, c5, q5⟩ hm
       unfold m6_8 at hm
       replace hm:=bb_cases hm;rcases hm with ⟨h8,hm⟩ | ⟨h8,hm⟩
       ·refine .ifT b7 (by kernel_rfl) h8 ?_
        refine .then (.rK ?_)
        refine .ghs (fr 158 [(4,zB false)]) (hp 1 [(oT tab0)]) (.k0 [false] [] [4]) ?_
        refine .ret ?_
        exact fin_ret (zB false) (by kernel_rfl) (by kernel_rfl) hm
       ·refine .ifF b7 (by kernel_rfl) h8 ?_
        refine .skip ?_
        replace hm:=bb_inv hm;obtain ⟨h9,hm⟩:=hm
        refine .ghs (fr 158 [(1,(zY z36)),(5,Sl.v 1 s9),(8,pt 1 0),(9,(pt 2 0)),(10,zB b5),(11,zI z37),(12,zI z38),(13,zI z39)]) (hT 4 [(oC [zI z40,zI z41,zI z42,Sl.v 1 s10]),(oC [zI z43,zI z44,zI z45,sc 3 0 1 n5 c5]),oC q5]) (.k [3] [false] [.tmp 8 false,.tmp 9 true,.cell 2 3 false] [1,5,8,9,10,11,12,13] ⟨trF h9,trivial⟩) ?_
        refine .then ?_
        replace hm:=oo_inv hm;obtain ⟨v3,h10,hm⟩:=hm
        replace hm:=inv_toSl hm;obtain ⟨s11,rfl,hm⟩:=hm
        refine .reg (eC 1 (giveF tabs 1 (pu 22) [sc 4 0 1 9 19] (hT 5 [(oC [zI z40,zI z41,zI z42,Sl.v 1 s10]),(oC [zI z43,zI z44,zI z45,sc 3 0 1 n5 c5]),oC q5,(oC [(zI (0:Int)),(zI (1:Int)),(zI (2:Int)),(zI (3:Int)),(zI (4:Int)),(zI (5:Int)),(zI (6:Int)),(zI (7:Int)),(zI (8:Int))])])) (giveF_eq (giveL_cons (show giveV 1 (sc 4 0 1 9 19) (hT 5 [(oC [zI z40,zI z41,zI z42,Sl.v 1 s10]),(oC [zI z43,zI z44,zI z45,sc 3 0 1 n5 c5]),oC q5,(oC [(zI (0:Int)),(zI (1:Int)),(zI (2:Int)),(zI (3:Int)),(zI (4:Int)),(zI (5:Int)),(zI (6:Int)),(zI (7:Int)),(zI (8:Int))])]) = some ((Sl.v 1 (Sl.mk 9 0 (takeL (9 * 1) (dropL 0 ([(zI (0:Int)),(zI (1:Int)),(zI (2:Int)),(zI (3:Int)),(zI (4:Int)),(zI (5:Int)),(zI (6:Int)),(zI (7:Int)),(zI (8:Int))]:LV))))),(hT 5 [(oC [zI z40,zI z41,zI z42,Sl.v 1 s10]),(oC [zI z43,zI z44,zI z45,sc 3 0 1 n5 c5]),oC q5,.dead])) from giveV_sl 4 0 1 9 19 ([(zI (0:Int)),(zI (1:Int)),(zI (2:Int)),(zI (3:Int)),(zI (4:Int)),(zI (5:Int)),(zI (6:Int)),(zI (7:Int)),(zI (8:Int))]:LV) [] (by kernel_rfl) (by kernel_rfl) (by kernel_rfl)) giveL_nil) (by kernel_rfl) h10) (eE)) ?_
        refine .ghs (fr 158 [(1,(zY z36)),(5,Sl.v 1 s9),(8,pt 1 0),(9,(pt 2 0)),(10,zB b5),(11,zI z37),(12,zI z38),(13,zI z39),(15,Sl.v 1 s11)]) (hT 4 [(oC [zI z40,zI z41,zI z42,Sl.v 1 s10]),(oC [zI z43,zI z44,zI z45,sc 3 0 1 n5 c5]),oC q5]) (.k [3] [false] [.tmp 8 false,.tmp 9 true,.cell 2 3 false] [1,5,8,9,10,11,12,13,15] ⟨trF h9,trivial⟩) ?_
        refine .then ?_
        refine .then ?_
        replace hm:=oo_inv hm;obtain ⟨v4,h11,hm⟩:=hm
        replace hm:=inv_toSl hm;obtain ⟨s12,rfl,hm⟩:=hm
        replace hm:=oo_inv hm;obtain ⟨v5,h12,hm⟩:=hm
        replace hm:=inv_toSl hm;obtain ⟨s13,rfl,hm⟩:=hm
        replace hm:=oo_inv hm;obtain ⟨v6,h13,hm⟩:=hm
        replace hm:=inv_toSl hm;obtain ⟨s14,rfl,hm⟩:=hm
        replace hm:=oo_inv hm;obtain ⟨v7,h14,hm⟩:=hm
        replace hm:=inv_vBool hm;obtain ⟨b8,rfl,hm⟩:=hm
        refine .reg (eC 2 ((oo (pu 10 [Sl.v 1 s11,(zI (3:Int)),(zI (3:Int)),zI z37]) none fun v=>some (v,(hT 4 [(oC [zI z40,zI z41,zI z42,Sl.v 1 s10]),(oC [zI z43,zI z44,zI z45,sc 3 0 1 n5 c5]),oC q5])))) (call_eq h11) (eC 1 ((oo (pu 10 [Sl.v 1 s12,(zI (3:Int)),(zI (3:Int)),zI z38]) none fun v=>some (v,(hT 4 [(oC [zI z40,zI z41,zI z42,Sl.v 1 s10]),(oC [zI z43,zI z44,zI z45,sc 3 0 1 n5 c5]),oC q5])))) (call_eq h12) (eC 2 ((oo (pu 10 [Sl.v 1 s11,(zI (3:Int)),(zI (3:Int)),zI z39]) none fun v=>some (v,(hT 4 [(oC [zI z40,zI z41,zI z42,Sl.v 1 s10]),(oC [zI z43,zI z44,zI z45,sc 3 0 1 n5 c5]),oC q5])))) (call_eq h13) (eD ((oo (pu 12 [Sl.v 1 s13,Sl.v 1 s14]) none fun v=>some (v,(hT 4 [(oC [zI z40,zI z41,zI z42,Sl.v 1 s10]),(oC [zI z43,zI z44,zI z45,sc 3 0 1 n5 c5]),oC q5])))) (call_eq h14) (eE))))) ?_
        refine .ghs (fr 158 [(1,(zY z36)),(5,Sl.v 1 s9),(8,pt 1 0),(9,(pt 2 0)),(10,zB b5),(11,zI z37),(12,zI z38),(13,zI z39),(87,(zB (nt b8)))]) (hT 4 [(oC [zI z40,zI z41,zI z42,Sl.v 1 s10]),(oC [zI z43,zI z44,zI z45,sc 3 0 1 n5 c5]),oC q5]) (.k [3] [false] [.tmp 8 false,.tmp 9 true,.cell 2 3 false] [1,5,8,9,10,11,12,13,87] ⟨trF h9,trivial⟩) ?_
        replace hm:=bb_cases hm;rcases hm with ⟨h15,hm⟩ | ⟨h15,hm⟩
        ·refine .ifT (nt b8) (by kernel_rfl) h15 ?_
         refine .then (.rK ?_)
         refine .ghs (fr 158 [(4,zB false)]) (hp 1 [(oT tab0)]) (.k0 [false] [] [4]) ?_
         refine .ret ?_
         exact fin_ret (zB false) (by kernel_rfl) (by kernel_rfl) hm
        ·refine .ifF (nt b8) (by kernel_rfl) h15 ?_
         refine .skip ?_
         refine .ghs (fr 158 [(1,(zY z36)),(5,Sl.v 1 s9),(8,pt 1 0),(9,(pt 2 0)),(10,zB b5),(11,zI z37),(12,zI z38),(13,zI z39)]) (hT 4 [(oC [zI z40,zI z41,zI z42,Sl.v 1 s10]),(oC [zI z43,zI z44,zI z45,sc 3 0 1 n5 c5]),oC q5]) (.k [3] [false] [.tmp 8 false,.tmp 9 true,.cell 2 3 false] [1,5,8,9,10,11,12,13] ⟨trF h9,trivial⟩) ?_
         refine .then ?_
         replace hm:=oo_inv hm;obtain ⟨v8,h16,hm⟩:=hm
         replace hm:=inv_vTup hm;obtain ⟨l1,rfl,hm⟩:=hm
         replace hm:=ll_uncons hm;obtain ⟨v9,l2361_0,rfl,hm⟩:=hm
         replace hm:=ll_uncons hm;obtain ⟨v10,l2361_1,rfl,hm⟩:=hm
         replace hm:=ll_end hm;obtain ⟨rfl,hm⟩:=hm
         replace hm:=inv_toSl hm;obtain ⟨s15,rfl,hm⟩:=hm
         replace hm:=inv_toI hm;obtain ⟨x2,rfl,hm⟩:=hm
         refine .reg (eC 3 ((oo (pu 11 [(.agg ⟨[zI z40,zI z41,zI z42,Sl.v 1 s10]⟩),Sl.v 1 s9,zI z37]) none fun v=>some (v,(hT 4 [(oC [zI z40,zI z41,zI z42,Sl.v 1 s10]),(oC [zI z43,zI z44,zI z45,sc 3 0 1 n5 c5]),oC q5])))) (call_eq h16) (eE)) ?_
         refine .ghs (fr 158 [(1,(zY z36)),(5,Sl.v 1 s9),(8,pt 1 0),(9,(pt 2 0)),(10,zB b5),(11,zI z37),(12,zI z38),(13,zI z39),(16,Sl.v 1 s15),(17,zI x2)]) (hT 4 [(oC [zI z40,zI z41,zI z42,Sl.v 1 s10]),(oC [zI z43,zI z44,zI z45,sc 3 0 1 n5 c5]),oC q5]) (.k [3] [false] [.tmp 8 false,.tmp 9 true,.cell 2 3 false] [1,5,8,9,10,11,12,13,16,17] ⟨trF h9,trivial⟩) ?_
         refine .then ?_
         refine .join (v:=v) (fun y:Int×Sl×Bool×Int×Int×Int×Sl×Bool×Int×Int×Int×Sl×Int×Int×Int×Nat×Nat×LV=>((fr 158 [(1,(zY y.1)),(5,(Sl.v 1 y.2.1)),(8,pt 1 0),(9,(pt 2 0)),(10,(zB y.2.2.1)),(11,(zI y.2.2.2.1)),(12,(zI y.2.2.2.2.1)),(13,(zI y.2.2.2.2.2.1)),(16,(Sl.v 1 y.2.2.2.2.2.2.1)),(101,(zB y.2.2.2.2.2.2.2.1))]),(hT 4 [(oC [(zI y.2.2.2.2.2.2.2.2.1),(zI y.2.2.2.2.2.2.2.2.2.1),(zI y.2.2.2.2.2.2.2.2.2.2.1),(Sl.v 1 y.2.2.2.2.2.2.2.2.2.2.2.1)]),(oC [(zI y.2.2.2.2.2.2.2.2.2.2.2.2.1),(zI y.2.2.2.2.2.2.2.2.2.2.2.2.2.1),(zI y.2.2.2.2.2.2.2.2.2.2.2.2.2.2.1),(sc 3 0 1 y.2.2.2.2.2.2.2.2.2.2.2.2.2.2.2.1 y.2.2.2.2.2.2.2.2.2.2.2.2.2.2.2.2.1)]),(oC y.2.2.2.2.2.2.2.2.2.2.2.2.2.2.2.2.2)]))) (fun y=>m6_9 pu n (l6_4 pu n w0) (l6_7 pu n (l6_4 pu n w0) w1) y.1 y.2.1 y.2.2.1 y.2.2.2.1 y.2.2.2.2.1 y.2.2.2.2.2.1 y.2.2.2.2.2.2.1 y.2.2.2.2.2.2.2.1 y.2.2.2.2.2.2.2.2.1 y.2.2.2.2.2.2.2.2.2.1 y.2.2.2.2.2.2.2.2.2.2.1 y.2.2.2.2.2.2.2.2.2.2.2.1 y.2.2.2.2.2.2.2.2.2.2.2.2.1 y.2.2.2.2.2.2.2.2.2.2.2.2.2.1 y.2.2.2.2.2.2.2.2.2.2.2.2.2.2.1 y.2.2.2.2.2.2.2.2.2.2.2.2.2.2.2.1 y.2.2.2.2.2.2.2.2.2.2.2.2.2.2.2.2.1 y.2.2.2.2.2.2.2.2.2.2.2.2.2.2.2.2.2) ?_ ?_
         ·rintro ⟨z46, s16, b9, z47, z48, z49, s17, b13, z50, z51, z52, s18, z53, z54, z55, n6, c7, q6⟩ hm
          unfold m6_9 at hm
          replace hm:=bb_cases hm;rcases hm with ⟨h17,hm⟩ | ⟨h17,hm⟩
          ·refine .ifT b13 (by kernel_rfl) h17 ?_
           refine .then (.rK ?_)
           refine .ghs (fr 158 [(4,zB false)]) (hp 1 [(oT tab0)]) (.k0 [false] [] [4]) ?_
           refine .ret ?_
           exact fin_ret (zB false) (by kernel_rfl) (by kernel_rfl) hm
          ·refine .ifF b13 (by kernel_rfl) h17 ?_
           refine .skip ?_
           replace hm:=bb_inv hm;obtain ⟨h18,hm⟩:=hm
           refine .ghs (fr 158 [(1,(zY z46)),(5,Sl.v 1 s16),(8,pt 1 0),(9,(pt 2 0)),(10,zB b9),(11,zI z47),(12,zI z48),(13,zI z49),(16,Sl.v 1 s17)]) (hT 4 [(oC [zI z50,zI z51,zI z52,Sl.v 1 s18]),(oC [zI z53,zI z54,zI z55,sc 3 0 1 n6 c7]),oC q6]) (.k [3] [false] [.tmp 8 false,.tmp 9 true,.cell 2 3 false] [1,5,8,9,10,11,12,13,16] ⟨trF h18,trivial⟩) ?_
           refine .then ?_
           replace hm:=oo_inv hm;obtain ⟨v11,h19,hm⟩:=hm
           replace hm:=inv_vTup hm;obtain ⟨l2,rfl,hm⟩:=hm
           replace hm:=ll_uncons hm;obtain ⟨v12,l2403_0,rfl,hm⟩:=hm
           replace hm:=ll_uncons hm;obtain ⟨v13,l2403_1,rfl,hm⟩:=hm
           replace hm:=ll_end hm;obtain ⟨rfl,hm⟩:=hm
           replace hm:=inv_toSl hm;obtain ⟨s19,rfl,hm⟩:=hm
           replace hm:=inv_toI hm;obtain ⟨x3,rfl,hm⟩:=hm
           refine .reg (eC 3 ((oo (pu 11 [(.agg ⟨[zI z50,zI z51,zI z52,Sl.v 1 s18]⟩),Sl.v 1 s17,zI z48]) none fun v=>some (v,(hT 4 [(oC [zI z50,zI z51,zI z52,Sl.v 1 s18]),(oC [zI z53,zI z54,zI z55,sc 3 0 1 n6 c7]),oC q6])))) (call_eq h19) (eE)) ?_
           refine .ghs (fr 158 [(1,(zY z46)),(5,Sl.v 1 s16),(8,pt 1 0),(9,(pt 2 0)),(10,zB b9),(11,zI z47),(12,zI z48),(13,zI z49),(18,Sl.v 1 s19),(19,zI x3)]) (hT 4 [(oC [zI z50,zI z51,zI z52,Sl.v 1 s18]),(oC [zI z53,zI z54,zI z55,sc 3 0 1 n6 c7]),oC q6]) (.k [3] [false] [.tmp 8 false,.tmp 9 true,.cell 2 3 false] [1,5,8,9,10,11,12,13,18,19] ⟨trF h18,trivial⟩) ?_
           refine .then ?_
           replace hm:=oo_inv hm;obtain ⟨v14,h20,hm⟩:=hm
           replace hm:=inv_vTup hm;obtain ⟨l3,rfl,hm⟩:=hm
           replace hm:=ll_uncons hm;obtain ⟨v15,l2423_0,rfl,hm⟩:=hm
           replace hm:=ll_uncons hm;obtain ⟨v16,l2423_1,rfl,hm⟩:=hm
           replace hm:=ll_end hm;obtain ⟨rfl,hm⟩:=hm
           replace hm:=inv_toSl hm;obtain ⟨s20,rfl,hm⟩:=hm
           replace hm:=inv_toI hm;obtain ⟨x4,rfl,hm⟩:=hm
           refine .reg (eC 3 ((oo (pu 11 [(.agg ⟨[zI z50,zI z51,zI z52,Sl.v 1 s18]⟩),Sl.v 1 s16,zI z49]) none fun v=>some (v,(hT 4 [(oC [zI z50,zI z51,zI z52,Sl.v 1 s18]),(oC [zI z53,zI z54,zI z55,sc 3 0 1 n6 c7]),oC q6])))) (call_eq h20) (eE)) ?_
           refine .ghs (fr 158 [(1,(zY z46)),(5,Sl.v 1 s16),(8,pt 1 0),(9,(pt 2 0)),(10,zB b9),(11,zI z47),(12,zI z48),(13,zI z49),(18,Sl.v 1 s19),(19,zI x3),(20,Sl.v 1 s20),(21,zI x4)]) (hT 4 [(oC [zI z50,zI z51,zI z52,Sl.v 1 s18]),(oC [zI z53,zI z54,zI z55,sc 3 0 1 n6 c7]),oC q6]) (.k [3] [false] [.tmp 8 false,.tmp 9 true,.cell 2 3 false] [1,5,8,9,10,11,12,13,18,19,20,21] ⟨trF h18,trivial⟩) ?_
           refine .then ?_
           refine .join (v:=v) (fun y:Int×Sl×Bool×Int×Int×Int×Bool×Int×Int×Int×Sl×Int×Int×Int×Nat×Nat×LV=>((fr 158 [(1,(zY y.1)),(5,(Sl.v 1 y.2.1)),(8,pt 1 0),(9,(pt 2 0)),(10,(zB y.2.2.1)),(11,(zI y.2.2.2.1)),(12,(zI y.2.2.2.2.1)),(13,(zI y.2.2.2.2.2.1)),(127,(zB y.2.2.2.2.2.2.1))]),(hT 4 [(oC [(zI y.2.2.2.2.2.2.2.1),(zI y.2.2.2.2.2.2.2.2.1),(zI y.2.2.2.2.2.2.2.2.2.1),(Sl.v 1 y.2.2.2.2.2.2.2.2.2.2.1)]),(oC [(zI y.2.2.2.2.2.2.2.2.2.2.2.1),(zI y.2.2.2.2.2.2.2.2.2.2.2.2.1),(zI y.2.2.2.2.2.2.2.2.2.2.2.2.2.1),(sc 3 0 1 y.2.2.2.2.2.2.2.2.2.2.2.2.2.2.1 y.2.2.2.2.2.2.2.2.2.2.2.2.2.2.2.1)]),(oC y.2.2.2.2.2.2.2.2.2.2.2.2.2.2.2.2)]))) (fun y=>m6_10 pu n (l6_4 pu n w0) (l6_7 pu n (l6_4 pu n w0) w1) y.1 y.2.1 y.2.2.1 y.2.2.2.1 y.2.2.2.2.1 y.2.2.2.2.2.1 y.2.2.2.2.2.2.1 y.2.2.2.2.2.2.2.1 y.2.2.2.2.2.2.2.2.1 y.2.2.2.2.2.2.2.2.2.1 y.2.2.2.2.2.2.2.2.2.2.1 y.2.2.2.2.2.2.2.2.2.2.2.1 y.2.2.2.2.2.2.2.2.2.2.2.2.1 y.2.2.2.2.2.2.2.2.2.2.2.2.2.1 y.2.2.2.2.2.2.2.2.2.2.2.2.2.2.1 y.2.2.2.2.2.2.2.2.2.2.2.2.2.2.2.1 y.2.2.2.2.2.2.2.2.2.2.2.2.2.2.2.2) ?_ ?_
           ·rintro ⟨z56, s21, b26, z57, z58, z59, b27, z60, z61, z62, s22, z63, z64, z66, n7, c8, q7⟩ hm
            unfold m6_10 at hm
            replace hm:=bb_cases hm;rcases hm with ⟨h21,hm⟩ | ⟨h21,hm⟩
            ·refine .ifT b27 (by kernel_rfl) h21 ?_
             refine .then (.rK ?_)
             refine .ghs (fr 158 [(4,zB false)]) (hp 1 [(oT tab0)]) (.k0 [false] [] [4]) ?_
             refine .ret ?_
             exact fin_ret (zB false) (by kernel_rfl) (by kernel_rfl) hm
            ·refine .ifF b27 (by kernel_rfl) h21 ?_
             refine .skip ?_
             replace hm:=bb_inv hm;obtain ⟨h22,hm⟩:=hm
             refine .ghs (fr 158 [(1,(zY z56)),(5,Sl.v 1 s21),(8,pt 1 0),(9,(pt 2 0)),(10,zB b26),(11,zI z57),(12,zI z58),(13,zI z59)]) (hT 4 [(oC [zI z60,zI z61,zI z62,Sl.v 1 s22]),(oC [zI z63,zI z64,zI z66,sc 3 0 1 n7 c8]),oC q7]) (.k [3] [false] [.tmp 8 false,.tmp 9 true,.cell 2 3 false] [1,5,8,9,10,11,12,13] ⟨trF h22,trivial⟩) ?_
             replace hm:=bb_cases hm;rcases hm with ⟨h23,hm⟩ | ⟨h23,hm⟩
             ·replace hm := oo_inv hm; obtain ⟨k1, h24, hm⟩ := hm
              obtain rfl:=toN_some h24
              replace hm:=bb_cases hm;rcases hm with ⟨h25,hm⟩ | ⟨h25,hm⟩
              ·refine .reg (eD (some ((zB b26), (hT 4 [(oC [zI z60, zI z61, zI z62, Sl.v 1 s22]), (oC [zI z63, zI z64, zI z66, sc 3 0 1 n7 c8]), oC q7]))) (show _ = some ((zB true), _) from (by rw [show b26 = true from h23])) (eC 5 (some ((zB (ieq (aand .u8 (shrI .u8 z56 k1) (1 : Int)) (0 : Int))), (hT 4 [(oC [zI z60, zI z61, zI z62, Sl.v 1 s22]), (oC [zI z63, zI z64, zI z66, sc 3 0 1 n7 c8]), oC q7]))) (show _ = some ((zB true), _) from (by rw [show (ieq (aand .u8 (shrI .u8 z56 k1) (1 : Int)) (0 : Int)) = true from h25])) (eE))) ?_
               refine .ghs (fr 158 [(1,(zY z56)),(5,Sl.v 1 s21),(8,pt 1 0),(9,(pt 2 0)),(10,zB true),(11,(zI (Int.ofNat k1))),(12,zI z58)]) (hT 4 [(oC [zI z60,zI z61,zI z62,Sl.v 1 s22]),(oC [zI z63,zI z64,zI z66,sc 3 0 1 n7 c8]),oC q7]) (.k [3] [false] [.tmp 8 false,.tmp 9 true,.cell 2 3 false] [1,5,8,9,10,11,12] ⟨trF h22,trivial⟩) ?_
               refine .rK ?_
               exact ⟨(z56,s21,true,(Int.ofNat k1),(wrapF .i64 (Int.add z58 (1:Int))),z60,z61,z62,s22,z63,z64,z66,n7,c8,q7),hm,(.k [3] [false] [.tmp 8 false,.tmp 9 true,.cell 2 3 false] [1,5,8,9,10,11,12] ⟨trF h22,trivial⟩)⟩
              ·replace hm := oo_inv hm; obtain ⟨k2, h26, hm⟩ := hm
               obtain rfl:=toN_some h26
               replace hm:=bb_cases hm;rcases hm with ⟨h27,hm⟩ | ⟨h27,hm⟩
               ·refine .reg (eD (some ((zB b26), (hT 4 [(oC [zI z60, zI z61, zI z62, Sl.v 1 s22]), (oC [zI z63, zI z64, zI z66, sc 3 0 1 n7 c8]), oC q7]))) (show _ = some ((zB true), _) from (by rw [show b26 = true from h23])) (eC 5 (some ((zB (ieq (aand .u8 (shrI .u8 z56 k1) (1 : Int)) (0 : Int))), (hT 4 [(oC [zI z60, zI z61, zI z62, Sl.v 1 s22]), (oC [zI z63, zI z64, zI z66, sc 3 0 1 n7 c8]), oC q7]))) (show _ = some ((zB false), _) from (by rw [show (ieq (aand .u8 (shrI .u8 z56 k1) (1 : Int)) (0 : Int)) = false from h25])) (eC 5 (some ((zB (ieq (aand .u8 (shrI .u8 z56 k2) (1 : Int)) (0 : Int))), (hT 4 [(oC [zI z60, zI z61, zI z62, Sl.v 1 s22]), (oC [zI z63, zI z64, zI z66, sc 3 0 1 n7 c8]), oC q7]))) (show _ = some ((zB true), _) from (by rw [show (ieq (aand .u8 (shrI .u8 z56 k2) (1 : Int)) (0 : Int)) = true from h27])) (eE)))) ?_
                refine .ghs (fr 158 [(1,(zY z56)),(5,Sl.v 1 s21),(8,pt 1 0),(9,(pt 2 0)),(10,zB true),(11,(zI (Int.ofNat k1))),(12,(zI (Int.ofNat k2)))]) (hT 4 [(oC [zI z60,zI z61,zI z62,Sl.v 1 s22]),(oC [zI z63,zI z64,zI z66,sc 3 0 1 n7 c8]),oC q7]) (.k [3] [false] [.tmp 8 false,.tmp 9 true,.cell 2 3 false] [1,5,8,9,10,11,12] ⟨trF h22,trivial⟩) ?_
                refine .rK ?_
                exact ⟨(z56,s21,true,(Int.ofNat k1),(wrapF .i64 (Int.add (Int.ofNat k2) (1:Int))),z60,z61,z62,s22,z63,z64,z66,n7,c8,q7),hm,(.k [3] [false] [.tmp 8 false,.tmp 9 true,.cell 2 3 false] [1,5,8,9,10,11,12] ⟨trF h22,trivial⟩)⟩
               ·replace hm := oo_inv hm; obtain ⟨k3, h28, hm⟩ := hm
                obtain rfl:=toN_some h28
                refine .reg (eD (some ((zB b26),(hT 4 [(oC [zI z60,zI z61,zI z62,Sl.v 1 s22]),(oC [zI z63,zI z64,zI z66,sc 3 0 1 n7 c8]),oC q7]))) (show _ = some ((zB true),_) from (by rw [show b26 = true from h23])) (eC 5 (some ((zB (ieq (aand .u8 (shrI .u8 z56 k1) (1:Int)) (0:Int))),(hT 4 [(oC [zI z60,zI z61,zI z62,Sl.v 1 s22]),(oC [zI z63,zI z64,zI z66,sc 3 0 1 n7 c8]),oC q7]))) (show _ = some ((zB false),_) from (by rw [show (ieq (aand .u8 (shrI .u8 z56 k1) (1:Int)) (0:Int)) = false from h25])) (eC 5 (some ((zB (ieq (aand .u8 (shrI .u8 z56 k2) (1:Int)) (0:Int))),(hT 4 [(oC [zI z60,zI z61,zI z62,Sl.v 1 s22]),(oC [zI z63,zI z64,zI z66,sc 3 0 1 n7 c8]),oC q7]))) (show _ = some ((zB false),_) from (by rw [show (ieq (aand .u8 (shrI .u8 z56 k2) (1:Int)) (0:Int)) = false from h27])) (eE)))) ?_
                refine .ghs (fr 158 [(1,(zY z56)),(5,Sl.v 1 s21),(8,pt 1 0),(9,(pt 2 0)),(10,(zB (ieq (aand .u8 (shrI .u8 z56 k3) (1:Int)) (1:Int)))),(11,(zI (Int.ofNat k1))),(12,(zI (Int.ofNat k2)))]) (hT 4 [(oC [zI z60,zI z61,zI z62,Sl.v 1 s22]),(oC [zI z63,zI z64,zI z66,sc 3 0 1 n7 c8]),oC q7]) (.k [3] [false] [.tmp 8 false,.tmp 9 true,.cell 2 3 false] [1,5,8,9,10,11,12] ⟨trF h22,trivial⟩) ?_
                refine .rK ?_
                exact ⟨(z56,s21,(ieq (aand .u8 (shrI .u8 z56 k3) (1:Int)) (1:Int)),(Int.ofNat k1),(wrapF .i64 (Int.add (Int.ofNat k2) (1:Int))),z60,z61,z62,s22,z63,z64,z66,n7,c8,q7),hm,(.k [3] [false] [.tmp 8 false,.tmp 9 true,.cell 2 3 false] [1,5,8,9,10,11,12] ⟨trF h22,trivial⟩)⟩
             ·refine .reg (eD (some ((zB b26), (hT 4 [(oC [zI z60, zI z61, zI z62, Sl.v 1 s22]), (oC [zI z63, zI z64, zI z66, sc 3 0 1 n7 c8]), oC q7]))) (show _ = some ((zB false), _) from (by rw [show b26 = false from h23])) (eE)) ?_
              refine .ghs (fr 158 [(1,(zY z56)),(5,Sl.v 1 s21),(8,pt 1 0),(9,(pt 2 0)),(10,zB false),(11,zI z57),(12,zI z58)]) (hT 4 [(oC [zI z60,zI z61,zI z62,Sl.v 1 s22]),(oC [zI z63,zI z64,zI z66,sc 3 0 1 n7 c8]),oC q7]) (.k [3] [false] [.tmp 8 false,.tmp 9 true,.cell 2 3 false] [1,5,8,9,10,11,12] ⟨trF h22,trivial⟩) ?_
              refine .rK ?_
              exact ⟨(z56,s21,false,z57,(wrapF .i64 (Int.add z58 (1:Int))),z60,z61,z62,s22,z63,z64,z66,n7,c8,q7),hm,(.k [3] [false] [.tmp 8 false,.tmp 9 true,.cell 2 3 false] [1,5,8,9,10,11,12] ⟨trF h22,trivial⟩)⟩
           ·replace hm := bb_cases hm; rcases hm with ⟨h29, hm⟩ | ⟨h29, hm⟩
            ·refine .reg (eC 1 (some ((zB (nt (ieq x3 (0 : Int)))), (hT 4 [(oC [zI z50, zI z51, zI z52, Sl.v 1 s18]), (oC [zI z53, zI z54, zI z55, sc 3 0 1 n6 c7]), oC q6]))) (show _ = some ((zB true), _) from (by rw [show (nt (ieq x3 (0 : Int))) = true from h29])) (eE)) ?_
             exact ⟨(z46,s16,b9,z47,z48,z49,true,z50,z51,z52,s18,z53,z54,z55,n6,c7,q6),hm,(.k [3] [false] [.tmp 8 false,.tmp 9 true,.cell 2 3 false] [1,5,8,9,10,11,12,13,127] ⟨trF h18,trivial⟩)⟩
            ·replace hm := bb_cases hm; rcases hm with ⟨h30, hm⟩ | ⟨h30, hm⟩
             ·refine .reg (eC 1 (some ((zB (nt (ieq x3 (0 : Int)))), (hT 4 [(oC [zI z50, zI z51, zI z52, Sl.v 1 s18]), (oC [zI z53, zI z54, zI z55, sc 3 0 1 n6 c7]), oC q6]))) (show _ = some ((zB false), _) from (by rw [show (nt (ieq x3 (0 : Int))) = false from h29])) (eC 2 (some ((zB (nt (ieq x4 (0 : Int)))), (hT 4 [(oC [zI z50, zI z51, zI z52, Sl.v 1 s18]), (oC [zI z53, zI z54, zI z55, sc 3 0 1 n6 c7]), oC q6]))) (show _ = some ((zB true), _) from (by rw [show (nt (ieq x4 (0 : Int))) = true from h30])) (eE))) ?_
              exact ⟨(z46,s16,b9,z47,z48,z49,true,z50,z51,z52,s18,z53,z54,z55,n6,c7,q6),hm,(.k [3] [false] [.tmp 8 false,.tmp 9 true,.cell 2 3 false] [1,5,8,9,10,11,12,13,127] ⟨trF h18,trivial⟩)⟩
             ·replace hm := oo_inv hm; obtain ⟨v17, h31, hm⟩ := hm
              replace hm:=inv_vBool hm;obtain ⟨b28,rfl,hm⟩:=hm
              refine .reg (eC 1 (some ((zB (nt (ieq x3 (0:Int)))),(hT 4 [(oC [zI z50,zI z51,zI z52,Sl.v 1 s18]),(oC [zI z53,zI z54,zI z55,sc 3 0 1 n6 c7]),oC q6]))) (show _ = some ((zB false),_) from (by rw [show (nt (ieq x3 (0:Int))) = false from h29])) (eC 2 (some ((zB (nt (ieq x4 (0:Int)))),(hT 4 [(oC [zI z50,zI z51,zI z52,Sl.v 1 s18]),(oC [zI z53,zI z54,zI z55,sc 3 0 1 n6 c7]),oC q6]))) (show _ = some ((zB false),_) from (by rw [show (nt (ieq x4 (0:Int))) = false from h30])) (eC 4 ((oo (pu 12 [Sl.v 1 s19,Sl.v 1 s20]) none fun v=>some (v,(hT 4 [(oC [zI z50,zI z51,zI z52,Sl.v 1 s18]),(oC [zI z53,zI z54,zI z55,sc 3 0 1 n6 c7]),oC q6])))) (call_eq h31) (eE)))) ?_
              exact ⟨(z46,s16,b9,z47,z48,z49,(nt b28),z50,z51,z52,s18,z53,z54,z55,n6,c7,q6),hm,(.k [3] [false] [.tmp 8 false,.tmp 9 true,.cell 2 3 false] [1,5,8,9,10,11,12,13,127] ⟨trF h18,trivial⟩)⟩
         ·replace hm := bb_cases hm; rcases hm with ⟨h32, hm⟩ | ⟨h32, hm⟩
          ·refine .reg (eC 1 (some ((zB (nt (ieq x2 (0 : Int)))), (hT 4 [(oC [zI z40, zI z41, zI z42, Sl.v 1 s10]), (oC [zI z43, zI z44, zI z45, sc 3 0 1 n5 c5]), oC q5]))) (show _ = some ((zB true), _) from (by rw [show (nt (ieq x2 (0 : Int))) = true from h32])) (eE)) ?_
           exact ⟨(z36,s9,b5,z37,z38,z39,s15,true,z40,z41,z42,s10,z43,z44,z45,n5,c5,q5),hm,(.k [3] [false] [.tmp 8 false,.tmp 9 true,.cell 2 3 false] [1,5,8,9,10,11,12,13,16,101] ⟨trF h9,trivial⟩)⟩
          ·refine .reg (eC 1 (some ((zB (nt (ieq x2 (0 : Int)))), (hT 4 [(oC [zI z40, zI z41, zI z42, Sl.v 1 s10]), (oC [zI z43, zI z44, zI z45, sc 3 0 1 n5 c5]), oC q5]))) (show _ = some ((zB false), _) from (by rw [show (nt (ieq x2 (0 : Int))) = false from h32])) (eE)) ?_
           exact ⟨(z36,s9,b5,z37,z38,z39,s15,(nt (ieq (Int.ofNat (Sl.n s15)) (9:Int))),z40,z41,z42,s10,z43,z44,z45,n5,c5,q5),hm,(.k [3] [false] [.tmp 8 false,.tmp 9 true,.cell 2 3 false] [1,5,8,9,10,11,12,13,16,101] ⟨trF h9,trivial⟩)⟩
      ·replace hm := bb_cases hm; rcases hm with ⟨h33, hm⟩ | ⟨h33, hm⟩
       ·refine .reg (eC 1 (some ((zB (nt (ieq x1 (0 : Int)))), (hT 4 [(oC [zI z30, zI z31, zI z32, Sl.v 1 s7]), (oC [zI z33, zI z34, zI z35, sc 3 0 1 n4 c4]), oC q4]))) (show _ = some ((zB true), _) from (by rw [show (nt (ieq x1 (0 : Int))) = true from h33])) (eE)) ?_
        exact ⟨(z27,s6,b4,z28,z29,x0,true,z30,z31,z32,s7,z33,z34,z35,n4,c4,q4),hm,(.k [3] [false] [.tmp 8 false,.tmp 9 true,.cell 2 3 false] [1,5,8,9,10,11,12,13,75] ⟨trF h5,trivial⟩)⟩
       ·replace hm := bb_cases hm; rcases hm with ⟨h34, hm⟩ | ⟨h34, hm⟩
        ·refine .reg (eC 1 (some ((zB (nt (ieq x1 (0 : Int)))), (hT 4 [(oC [zI z30, zI z31, zI z32, Sl.v 1 s7]), (oC [zI z33, zI z34, zI z35, sc 3 0 1 n4 c4]), oC q4]))) (show _ = some ((zB false), _) from (by rw [show (nt (ieq x1 (0 : Int))) = false from h33])) (eC 2 (some ((zB (ilt x0 (0 : Int))), (hT 4 [(oC [zI z30, zI z31, zI z32, Sl.v 1 s7]), (oC [zI z33, zI z34, zI z35, sc 3 0 1 n4 c4]), oC q4]))) (show _ = some ((zB true), _) from (by rw [show (ilt x0 (0 : Int)) = true from h34])) (eE))) ?_
         exact ⟨(z27,s6,b4,z28,z29,x0,true,z30,z31,z32,s7,z33,z34,z35,n4,c4,q4),hm,(.k [3] [false] [.tmp 8 false,.tmp 9 true,.cell 2 3 false] [1,5,8,9,10,11,12,13,75] ⟨trF h5,trivial⟩)⟩
        ·refine .reg (eC 1 (some ((zB (nt (ieq x1 (0 : Int)))), (hT 4 [(oC [zI z30, zI z31, zI z32, Sl.v 1 s7]), (oC [zI z33, zI z34, zI z35, sc 3 0 1 n4 c4]), oC q4]))) (show _ = some ((zB false), _) from (by rw [show (nt (ieq x1 (0 : Int))) = false from h33])) (eC 2 (some ((zB (ilt x0 (0 : Int))), (hT 4 [(oC [zI z30, zI z31, zI z32, Sl.v 1 s7]), (oC [zI z33, zI z34, zI z35, sc 3 0 1 n4 c4]), oC q4]))) (show _ = some ((zB false), _) from (by rw [show (ilt x0 (0 : Int)) = false from h34])) (eE))) ?_
         exact ⟨(z27,s6,b4,z28,z29,x0,(ilt (7:Int) x0),z30,z31,z32,s7,z33,z34,z35,n4,c4,q4),hm,(.k [3] [false] [.tmp 8 false,.tmp 9 true,.cell 2 3 false] [1,5,8,9,10,11,12,13,75] ⟨trF h5,trivial⟩)⟩
     ·refine .ifF (ilt z29 (8 : Int)) (by kernel_rfl) h6 ?_
      refine .exit ?_
      exact ⟨(z27,s6,b4,z28,z30,z31,z32,s7,z33,z34,z35,n4,c4,q4),hm,(.k [3] [false] [.tmp 8 false,.tmp 9 true,.cell 2 3 false] [1,5,8,9,10,11] ⟨trF h5,trivial⟩)⟩
    ·refine .then ?_
     replace hm:=oo_inv hm;obtain ⟨k4,h35,hm⟩:=hm
     obtain rfl:=toN_some h35
     refine .rK ?_
     refine .ghs (fr 158 [(1,(zY z3)),(5,Sl.v 1 s0),(8,pt 1 0),(9,(pt 2 0)),(10,zB b1),(11,(zI (Int.ofNat k4))),(49,(zB (ieq (aand .u8 (shrI .u8 z3 k4) (1:Int)) (1:Int))))]) (hT 4 [(oC [zI z5,zI z6,zI z7,Sl.v 1 s1]),(oC [zI z8,zI z9,zI z10,sc 3 0 1 n1 c1]),oC q1]) (.k [3] [false] [.tmp 8 false,.tmp 9 true,.cell 2 3 false] [1,5,8,9,10,11,49] ⟨trF h1,trivial⟩) ?_
     replace hm:=bb_cases hm;rcases hm with ⟨h36,hm⟩ | ⟨h36,hm⟩
     ·refine .ifT (ieq (aand .u8 (shrI .u8 z3 k4) (1 : Int)) (1 : Int)) (by kernel_rfl) h36 ?_
      replace hm:=bb_inv hm;obtain ⟨h37,hm⟩:=hm
      refine .reg (eC 4 (growD 1 8 n1 c1 1 3 q1 [(zI (Int.ofNat k4))] [] (hT 5 [(oC [zI z5,zI z6,zI z7,Sl.v 1 s1]),(oC [zI z8,zI z9,zI z10,sc 3 0 1 n1 c1]),oC q1,(oC [(zI (Int.ofNat k4))])])) (growD_eq h37) (eE)) ?_
      replace hm:=bb_inv hm;obtain ⟨h38,hm⟩:=hm
      exact ⟨(z3,s0,b1,(Int.ofNat k4),z5,z6,z7,s1,z8,z9,z10,(n1 + 1),(d2 (n1 + 1)),(appL (dropL 0 q1) [(zI (Int.ofNat k4))])),hm,(.k [5] [false] [.tmp 8 false,.tmp 9 true,.cell 2 3 false] [1,5,8,9,10,11] ⟨trF h38,trivial⟩)⟩
     ·refine .ifF (ieq (aand .u8 (shrI .u8 z3 k4) (1 : Int)) (1 : Int)) (by kernel_rfl) h36 ?_
      refine .skip ?_
      exact ⟨(z3,s0,b1,(Int.ofNat k4),z5,z6,z7,s1,z8,z9,z10,n1,c1,q1),hm,(.k [3] [false] [.tmp 8 false,.tmp 9 true,.cell 2 3 false] [1,5,8,9,10,11] ⟨trF h1,trivial⟩)⟩
  ·refine .ifF (ilt z4 (8 : Int)) (by kernel_rfl) h2 ?_
   refine .exit ?_
   exact ⟨(b1,z8,z9,z10,n1,c1,q1),hm,(.k [3] [false] [.tmp 9 true,.cell 1 3 false] [9,10] ⟨trF h1,trivial⟩)⟩
theorem r6 {call:CallF} (pu:PureF) (n:Nat) (hcall:call = callP tabs isP pu (inl pu)) {args:LV} {v:Value} (hm:m6 pu n args = some v) (_:∀ x ∈ args,closed2 x = true):args.length≤158∧Run tt call 1 c6_96 (Fr.made 158 args) (pureHeap tabs) (Fin tt 1 [.tmp 4] v):=by
 subst hcall
 unfold m6 at hm
 replace hm:=ll_uncons hm;obtain ⟨a0,args_0,rfl,hm⟩:=hm
 replace hm:=ll_uncons hm;obtain ⟨a1,args_1,rfl,hm⟩:=hm
 replace hm:=ll_end hm;obtain ⟨rfl,hm⟩:=hm
 replace hm:=inv_vAgg hm;obtain ⟨l1,rfl,hm⟩:=hm
 replace hm:=ll_uncons hm;obtain ⟨v3,l1_0,rfl,hm⟩:=hm
 replace hm:=ll_uncons hm;obtain ⟨v4,l1_1,rfl,hm⟩:=hm
 replace hm:=ll_uncons hm;obtain ⟨v5,l1_2,rfl,hm⟩:=hm
 replace hm:=ll_uncons hm;obtain ⟨v6,l1_3,rfl,hm⟩:=hm
 replace hm:=ll_uncons hm;obtain ⟨v7,l1_4,rfl,hm⟩:=hm
 replace hm:=ll_uncons hm;obtain ⟨v8,l1_5,rfl,hm⟩:=hm
 replace hm:=ll_uncons hm;obtain ⟨v9,l1_6,rfl,hm⟩:=hm
 replace hm:=ll_uncons hm;obtain ⟨v10,l1_7,rfl,hm⟩:=hm
 replace hm:=ll_uncons hm;obtain ⟨v11,l1_8,rfl,hm⟩:=hm
 replace hm:=ll_end hm;obtain ⟨rfl,hm⟩:=hm
 replace hm:=inv_toI hm;obtain ⟨x12,rfl,hm⟩:=hm
 replace hm:=inv_toI hm;obtain ⟨x14,rfl,hm⟩:=hm
 replace hm:=inv_toI hm;obtain ⟨x16,rfl,hm⟩:=hm
 replace hm:=inv_toI hm;obtain ⟨x18,rfl,hm⟩:=hm
 replace hm:=inv_toI hm;obtain ⟨x20,rfl,hm⟩:=hm
 replace hm:=inv_toI hm;obtain ⟨x22,rfl,hm⟩:=hm
 replace hm:=inv_toI hm;obtain ⟨x24,rfl,hm⟩:=hm
 replace hm:=inv_toI hm;obtain ⟨x26,rfl,hm⟩:=hm
 replace hm:=inv_toI hm;obtain ⟨x28,rfl,hm⟩:=hm
 replace hm:=inv_toI hm;obtain ⟨x30,rfl,hm⟩:=hm
 unfold m6_ at hm
 refine ⟨by simp,?_⟩
 refine .same (F':=(fr 158 [(0,(.agg ⟨[(zY x12),(zY x14),(zY x16),(zY x18),(zY x20),(zY x22),(zY x24),(zY x26),(zY x28)]⟩)),(1,(zY x30))])) (H':=(hp 1 [(oT tab0)])) (by kernel_rfl) (by kernel_rfl) ?_
 refine .then (.rK ?_)
 refine .ghs (fr 158 [(1,(zY x30)),(2,pt 1 0)]) (hT 2 [(oC [(zY x12),(zY x14),(zY x16),(zY x18),(zY x20),(zY x22),(zY x24),(zY x26),(zY x28)])]) (.k0 [false] [.tmp 2 false] [1,2]) ?_
 refine .then (.rK ?_)
 refine .ghs (fr 158 [(1,(zY x30)),(2,pt 1 0),(5,(.slice none 0 0))]) (hT 2 [(oC [(zY x12),(zY x14),(zY x16),(zY x18),(zY x20),(zY x22),(zY x24),(zY x26),(zY x28)])]) (.k0 [false] [.tmp 2 false] [1,2,5]) ?_
 refine .join (v:=v) (fun y:Int×Nat×Nat×LV=>((fr 158 [(1,(zY y.1)),(5,(sc 1 0 1 y.2.1 y.2.2.1))]),(hT 2 [(oC y.2.2.2)]))) (fun y=>m6_0 pu n y.1 y.2.1 y.2.2.1 y.2.2.2) ?_ ?_
 ·rintro ⟨z65, n66, c67, q68⟩ hm
  exact w6_0 pu n z65 n66 c67 q68 hm
 ·refine .then (.rK ?_)
  refine .ghs (fr 158 [(1,(zY x30)),(5,(.slice none 0 0)),(23,(.agg ⟨[(zY x12),(zY x14),(zY x16),(zY x18),(zY x20),(zY x22),(zY x24),(zY x26),(zY x28)]⟩)),(24,(zI (0:Int)))]) (hp 1 [(oT tab0)]) (.k0 [false] [] [1,5,23,24]) ?_
  refine .block ?_
  refine .loopM (v:=v) (fun y:Int×Nat×Nat×Int×Int×Int×Int×Int×Int×Int×Int×Int×Int×LV=>((fr 158 [(1,(zY y.1)),(5,(sc 1 0 1 y.2.1 y.2.2.1)),(23,(.agg ⟨[(zY y.2.2.2.1),(zY y.2.2.2.2.1),(zY y.2.2.2.2.2.1),(zY y.2.2.2.2.2.2.1),(zY y.2.2.2.2.2.2.2.1),(zY y.2.2.2.2.2.2.2.2.1),(zY y.2.2.2.2.2.2.2.2.2.1),(zY y.2.2.2.2.2.2.2.2.2.2.1),(zY y.2.2.2.2.2.2.2.2.2.2.2.1)]⟩)),(24,(zI y.2.2.2.2.2.2.2.2.2.2.2.2.1))]),(hT 2 [(oC y.2.2.2.2.2.2.2.2.2.2.2.2.2)]))) (fun w y=>l6_11 pu n w y.1 y.2.1 y.2.2.1 y.2.2.2.1 y.2.2.2.2.1 y.2.2.2.2.2.1 y.2.2.2.2.2.2.1 y.2.2.2.2.2.2.2.1 y.2.2.2.2.2.2.2.2.1 y.2.2.2.2.2.2.2.2.2.1 y.2.2.2.2.2.2.2.2.2.2.1 y.2.2.2.2.2.2.2.2.2.2.2.1 y.2.2.2.2.2.2.2.2.2.2.2.2.1 y.2.2.2.2.2.2.2.2.2.2.2.2.2) n ⟨(x30,0,0,x12,x14,x16,x18,x20,x22,x24,x26,x28,(0:Int),([]:LV)),hm,(.thaw 5 1 (by kernel_rfl) (.k0 [false] [.tmp 5 false] [1,5,23,24]))⟩ (fun _=>rfl) ?_
  rintro w0 ⟨z0,n0,c0,z1,z2,z3,z4,z5,z6,z7,z8,z9,z10,q0⟩ hm
  replace hm:b6_11 pu n (l6_11 pu n w0) z0 n0 c0 z1 z2 z3 z4 z5 z6 z7 z8 z9 z10 q0 = some v:=hm
  unfold b6_11 at hm
  refine .then (.rK ?_)
  replace hm:=bb_inv hm;obtain ⟨h0,hm⟩:=hm
  refine .ghs (fr 158 [(1,(zY z0)),(5,sc 1 0 1 n0 c0),(23,(.agg ⟨[(zY z1),(zY z2),(zY z3),(zY z4),(zY z5),(zY z6),(zY z7),(zY z8),(zY z9)]⟩)),(24,zI z10),(25,(zB (ilt z10 (9:Int))))]) (hT 2 [oC q0]) (.k [1] [false] [.tmp 5 false] [1,5,23,24,25] ⟨trF h0,trivial⟩) ?_
  refine .then ?_
  replace hm:=bb_cases hm;rcases hm with ⟨h1,hm⟩ | ⟨h1,hm⟩
  ·refine .ifT (ilt z10 (9 : Int)) (by kernel_rfl) h1 ?_
   refine .skip ?_
   refine .ghs (fr 158 [(1,(zY z0)),(5,sc 1 0 1 n0 c0),(23,(.agg ⟨[(zY z1),(zY z2),(zY z3),(zY z4),(zY z5),(zY z6),(zY z7),(zY z8),(zY z9)]⟩)),(24,zI z10)]) (hT 2 [oC q0]) (.k [1] [false] [.tmp 5 false] [1,5,23,24] ⟨trF h0,trivial⟩) ?_
   refine .then ?_
   refine .block ?_
   refine .then ?_
   replace hm:=oo_inv hm;obtain ⟨k1,h2,hm⟩:=hm
   obtain rfl:=toN_some h2
   replace hm:=bb_inv hm;obtain ⟨h3,hm⟩:=hm
   replace hm:=oo_inv hm;obtain ⟨v0,h4,hm⟩:=hm
   replace hm:=inv_toI hm;obtain ⟨x0,rfl,hm⟩:=hm
   refine .reg (eD (keep (hT 2 [oC q0]) (bb (Nat.blt k1 9) (nthL ([(zY z1),(zY z2),(zY z3),(zY z4),(zY z5),(zY z6),(zY z7),(zY z8),(zY z9)]:LV) (k1 * 1)) none)) (keep_bbo h3 h4) (eE)) ?_
   refine .ghs (fr 158 [(1,(zY z0)),(5,sc 1 0 1 n0 c0),(7,(zY x0)),(23,(.agg ⟨[(zY z1),(zY z2),(zY z3),(zY z4),(zY z5),(zY z6),(zY z7),(zY z8),(zY z9)]⟩)),(24,(zI (Int.ofNat k1)))]) (hT 2 [oC q0]) (.k [1] [false] [.tmp 5 false] [1,5,7,23,24] ⟨trF h0,trivial⟩) ?_
   replace hm:=bb_inv hm;obtain ⟨h5,hm⟩:=hm
   refine .reg (eC 5 (growD 1 8 n0 c0 1 1 q0 [(zI (Int.tmod (wrapF .i64 x0) (4:Int)))] [] (hT 3 [oC q0,(oC [(zI (Int.tmod (wrapF .i64 x0) (4:Int)))])])) (growD_eq h5) (eE)) ?_
   replace hm:=bb_inv hm;obtain ⟨h6,hm⟩:=hm
   refine .ghs (fr 158 [(1,(zY z0)),(5,(sc 1 0 1 (n0 + 1) (d2 (n0 + 1)))),(23,(.agg ⟨[(zY z1),(zY z2),(zY z3),(zY z4),(zY z5),(zY z6),(zY z7),(zY z8),(zY z9)]⟩)),(24,(zI (Int.ofNat k1)))]) (hT 2 [(oC (appL (dropL 0 q0) [(zI (Int.tmod (wrapF .i64 x0) (4:Int)))]))]) (.k [3] [false] [.tmp 5 false] [1,5,23,24] ⟨trF h6,trivial⟩) ?_
   refine .rK ?_
   exact ⟨(z0,(n0 + 1),(d2 (n0 + 1)),z1,z2,z3,z4,z5,z6,z7,z8,z9,(wrapF .i64 (Int.add (Int.ofNat k1) (1:Int))),(appL (dropL 0 q0) [(zI (Int.tmod (wrapF .i64 x0) (4:Int)))])),hm,(.k [1] [false] [.tmp 5 false] [1,5,23,24] ⟨trF h6,trivial⟩)⟩
  ·refine .ifF (ilt z10 (9 : Int)) (by kernel_rfl) h1 ?_
   refine .exit ?_
   exact ⟨(z0,n0,c0,q0),hm,(.k [1] [false] [.tmp 5 false] [1,5] ⟨trF h0,trivial⟩)⟩
end
end Go.BkPM
