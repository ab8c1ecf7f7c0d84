/- Made from wip. -/
import Derived.Test.YtkhedoaiejjcfaaGreatSpSortKx
import Derived.Test.YtkhedoaiejjcfaaGreatHzBCode
import Derived.KernelRfl

set_option maxRecDepth 100000
namespace Go.Sp
theorem Weak.cap (id off sz ln m:Nat):Weak (.slice (some ⟨id,off,some sz⟩) ln (2 * m + 1)) (.slice (some ⟨id,off,some sz⟩) ln (2 * m)):=fun R u h=>by
 have e1:(2 * m + 1) / 2 = m:=by omega
 have e2:2 * m / 2 = m:=by omega
 cases h with
 | sl h h1 h2 h3 h4 =>
  rw [e1] at h1 h2
  exact .sl h (by rw [e2];exact h1) (by rw [e2];exact h2) (fun h=>by omega) h4
 | slE h=>exact .slE (by omega)
 | slN h=>exact .slN (by omega)
end Go.Sp
namespace Go.HzBM
open Go.Sp Go.HzB
noncomputable section
def orc68 (args:List Value):Option Value:=
 ll args none fun a r => ll r none fun b r => ll r (oo (toSl 1 a) none fun s => oo (toI .i64 b) none fun z => oo (toN z) none fun k => ll s.cs none fun x r => ll r (oo (toI .i64 x) none fun y => bb (an (Nat.beq s.n 1) (Nat.ble k 21))
  (some (Sl.v 1 ⟨k,0,zeroRow [.int .i64 y] k⟩)) none) fun _ _=>none) fun _ _=>none
def orc60 (args:List Value):Option Value:=
 ll args none fun a r=>ll r (oo (toSl 1 a) none fun s=>ll s.cs none fun x r=>ll r none fun y r=>ll r (oo (toSl 1 x) none fun u=>oo (toSl 1 y) none fun v=>oo (mapO (toSl 1) u.cs) none fun us=>oo (mapO (toSl 1) v.cs) none fun vs=>
  bb (an (Nat.beq s.n 2) (an (Nat.beq s.fl 0) (an (Nat.beq u.fl 0) (an (Nat.beq v.fl 0) (an (Nat.beq u.n (len us)) (an (Nat.beq v.n (len vs)) (an (Nat.ble 1 (len us)) (Nat.ble (len us + len vs) 7))))))))
   (some (Sl.v 1 ⟨len us + len vs,0,appL u.cs v.cs⟩)) none) fun _ _=>none) fun _ _=>none
def orc16 (_:List Value):Option Value:=none
def orc8 (_:List Value):Option Value:=none
def orc11 (_:List Value):Option Value:=none
def identF (args:List Value) (H:AHeap):Option (Value×AHeap):=ll args none fun a r=>ll r (AHeap.rec (motive:=fun _=>Option (Value×AHeap)) (fun k T z=>bb z (some (a,⟨k,T,true⟩)) none) H) fun _ _=>none
theorem identEv (a:Value) (k:Nat) (T:Tr AObj):evFn tt fns 2 42 [a] ⟨k,T,true⟩ = some (a,⟨k,T,true⟩):=by kernel_rfl
theorem ident42_ok {P : Program} (hT : TOk P tt) (hf : ∀ f r, fns f = some r → FnOk P [] f r) (hm : P.follows .mixedOrders = true) {args : List Value} {H H' : AHeap} {v : Value} (h : identF args H = some (v, H')) :
 (∀ (as:Array Value) (w:World),(callFunc 42 as).run P w = .ok (.enter 42 as) w) ∧
 ∀ R w args',Sim H R w→GlR [] R→VRL R args args'→Calls P 42 ⟨args'⟩ w fun e w'=>∃ u R',e = .returned u∧VR R' v u∧Post H R w H' R' w':=by
 obtain ⟨a,r,rfl,h⟩:=ll_uncons h
 obtain ⟨rfl,h⟩:=ll_end h
 obtain ⟨k,T,z⟩:=H
 obtain ⟨hz,h⟩:=bb_inv (show bb z _ none = some _ from h)
 subst hz
 injection h with h
 injection h with h1 h2
 subst h1;subst h2
 exact (evFn_ok hT hf hm 2) 42 _ _ _ _ (identEv a k T)
end
end Go.HzBM
set_option maxRecDepth 100000
set_option maxHeartbeats 20000000
set_option linter.unusedVariables false
namespace Go.HzBM
open Go.Sp Go.HzB
noncomputable section
def tabs:List (List Value):=[]
theorem trF {a b:Bool} (h:b = true) (e:a = b:=by kernel_rfl):a = true:=e.trans h
abbrev OV:=Option Value
abbrev LV:=List Value
def plist:List Nat:=[3,7,8,9,10,11,12,13,14,15,16,27,28,29,30,31,36,41,55,57,59,63,65]
def isP:FuncId→Bool:=fun g=>memN g plist
def inl (pu:PureF):CallF:=fun g args H=>bb (Nat.beq g 42) (identF args H) (bb (Nat.beq g 43) (sortF args H) (bb (Nat.beq g 56) (liveF tabs 1 (pu 56) args H) (bb (Nat.beq g 60) (giveF tabs 1 (pu 60) args H) (bb (Nat.beq g 68) (giveF tabs 1 (pu 68) args H) (bb (Nat.beq g 44) (objG tabs [[none]] 1 [.tmp 0 false] [false] (pu 10440) args H) (none))))))
def zA54:LV:=[(.int .i64 (0:Int)),(.int .i64 (0:Int)),(.int .i64 (0:Int)),(.int .i64 (0:Int)),(.int .i64 (0:Int)),(.int .i64 (0:Int)),(.int .i64 (0:Int)),(.int .i64 (0:Int)),(.int .i64 (0:Int)),(.int .i64 (0:Int)),(.int .i64 (0:Int)),(.int .i64 (0:Int)),(.int .i64 (0:Int)),(.int .i64 (0:Int)),(.int .i64 (0:Int)),(.int .i64 (0:Int)),(.int .i64 (0:Int)),(.int .i64 (0:Int)),(.int .i64 (0:Int)),(.int .i64 (0:Int)),(.int .i64 (0:Int)),(.int .i64 (0:Int))]
end
end Go.HzBM
set_option maxRecDepth 100000
set_option maxHeartbeats 20000000
set_option linter.unusedVariables false
namespace Go.HzBM
open Go.Sp Go.HzB
noncomputable section
def m3_2 (pu:PureF) (n:Nat) (b0:Bool):OV:=
 (some (.bool b0))
def m3_1 (pu:PureF) (n:Nat) (z0 z1:Int):OV:=
 (bb (ieq z1 z0) (oo (pu 16 []) none fun v0=>(oo (vBool v0) none fun b0=>(m3_2 pu n b0))) (m3_2 pu n false))
def m3_4 (pu:PureF) (n:Nat) (ih0:Int→Int→Int→Sl→Int→Sl→Int→Int→OV) (z0 z1 z2:Int) (s0:Sl) (z3:Int) (s1:Sl) (z4 z5:Int):OV:=
 (ih0 z0 z1 z2 s0 z3 s1 z4 (wrapF .i64 (Int.add z5 (1:Int))))
def m3_6 (pu:PureF) (n:Nat) (ih0:Int→Int→Int→Sl→Int→Sl→Int→Int→OV) (z0 z1 z2:Int) (s0:Sl) (z3:Int) (s1 s2:Sl) (z4 z5:Int):OV:=
 (m3_4 pu n ih0 z0 z1 z2 s0 (wrapF .i64 (Int.add z3 (Int.ofNat (Sl.n s1)))) s2 z4 z5)
def m3_8 (pu:PureF) (n:Nat) (ih0:Int→Int→Int→Sl→Int→Sl→Int→Int→OV) (ih1:Int→Int→Int→Sl→Int→Sl→Sl→Int→Int→Sl→Int→Int→OV) (z0 z1 z2:Int) (s0:Sl) (z3:Int) (s1 s2:Sl) (z4 z5:Int) (s3:Sl) (z6 z7:Int) (b0:Bool):OV:=
 (bb b0 (some (.bool false)) (ih1 z0 z1 z2 s0 z3 s1 s2 z4 z5 s3 z6 (wrapF .i64 (Int.add z7 (1:Int)))))
def b3_7 (pu:PureF) (n:Nat) (ih0:Int→Int→Int→Sl→Int→Sl→Int→Int→OV) (ih1:Int→Int→Int→Sl→Int→Sl→Sl→Int→Int→Sl→Int→Int→OV) (z0 z1 z2:Int) (s0:Sl) (z3:Int) (s1 s2:Sl) (z4 z5:Int) (s3:Sl) (z6 z7:Int):OV:=
 (bb (ilt z7 z6) (oo (toN z7) none fun k1=>(bb (an (Nat.blt k1 (Sl.n s3)) true) (oo (nthL (Sl.cs s3) (k1 * 1)) none fun v0=>(oo (toSl 1 v0) none fun s4=>(bb (ieq (Int.ofNat (Sl.n s4)) (0:Int)) (m3_8 pu n ih0 ih1 z0 z1 z2 s0 z3 s1 s2 z4 z5 s3 z6 (Int.ofNat k1) true) (oo (pu 13 [Sl.v 1 s4]) none fun v1=>(oo (toI .i64 v1) none fun x0=>(bb (nt (ieq x0 z0)) (m3_8 pu n ih0 ih1 z0 z1 z2 s0 z3 s1 s2 z4 z5 s3 z6 (Int.ofNat k1) true) (bb (nt (ieq (Int.ofNat (Sl.n s1)) (0:Int))) (oo (toN (Int.tmod (wrapF .i64 (Int.add (Int.ofNat k1) (1:Int))) (Int.ofNat (Sl.n s1)))) none fun k2=>(bb (an (Nat.blt k2 (Sl.n s1)) true) (oo (nthL (Sl.cs s1) (k2 * 1)) none fun v2=>(oo (toSl 1 v2) none fun s5=>(oo (pu 15 [Sl.v 1 s4]) none fun v3=>(oo (toSl 1 v3) none fun s6=>(oo (pu 14 [Sl.v 1 s6,Sl.v 1 s5]) none fun v4=>(oo (vBool v4) none fun b0=>(bb (nt b0) (m3_8 pu n ih0 ih1 z0 z1 z2 s0 z3 s1 s2 z4 z5 s3 z6 (Int.ofNat k1) true) (bb (an (Nat.blt 0 (Sl.n s1)) true) (oo (nthL (Sl.cs s1) (0 * 1)) none fun v5=>(oo (toSl 1 v5) none fun s7=>(oo (pu 12 [Sl.v 1 s4,Sl.v 1 s7]) none fun v6=>(oo (toI .i64 v6) none fun x1=>(bb (ilt x1 (0:Int)) (m3_8 pu n ih0 ih1 z0 z1 z2 s0 z3 s1 s2 z4 z5 s3 z6 (Int.ofNat k1) true) (bb (ilt (0:Int) (Int.ofNat k1)) (bb (an (Nat.blt 0 (Sl.n s1)) true) (oo (nthL (Sl.cs s1) (0 * 1)) none fun v7=>(oo (toSl 1 v7) none fun s8=>(oo (pu 14 [Sl.v 1 s4,Sl.v 1 s8]) none fun v8=>(oo (vBool v8) none fun b1=>(m3_8 pu n ih0 ih1 z0 z1 z2 s0 z3 s1 s2 z4 z5 s3 z6 (Int.ofNat k1) b1))))) none) (m3_8 pu n ih0 ih1 z0 z1 z2 s0 z3 s1 s2 z4 z5 s3 z6 (Int.ofNat k1) false))))))) none)))))))) none)) none))))))) none)) (m3_6 pu n ih0 z0 z1 z2 s0 z3 s1 s2 z4 z5))
def l3_7 (pu:PureF) (n:Nat) (ih0:Int→Int→Int→Sl→Int→Sl→Int→Int→OV) (w:Nat):Int→Int→Int→Sl→Int→Sl→Sl→Int→Int→Sl→Int→Int→OV:=
 Nat.rec (motive:=fun _=>Int→Int→Int→Sl→Int→Sl→Sl→Int→Int→Sl→Int→Int→OV) (fun _ _ _ _ _ _ _ _ _ _ _ _=>none) (fun _ ih1=>b3_7 pu n ih0 ih1) w
def m3_5 (pu:PureF) (n:Nat) (ih0:Int→Int→Int→Sl→Int→Sl→Int→Int→OV) (z0 z1 z2:Int) (s0:Sl) (z3:Int) (s1 s2:Sl) (z4 z5:Int) (b0:Bool):OV:=
 (bb b0 (some (.bool false)) (l3_7 pu n ih0 n z0 z1 z2 s0 z3 s1 s2 z4 z5 s1 (Int.ofNat (Sl.n s1)) (0:Int)))
def b3_3 (pu:PureF) (n:Nat) (ih0:Int→Int→Int→Sl→Int→Sl→Int→Int→OV) (z0 z1 z2:Int) (s0:Sl) (z3:Int) (s1:Sl) (z4 z5:Int):OV:=
 (bb (ilt z5 z4) (oo (toN z5) none fun k1=>(bb (an (Nat.blt k1 (Sl.n s1)) true) (oo (nthL (Sl.cs s1) (k1 * 1)) none fun v0=>(oo (toSl 1 v0) none fun s2=>(bb (ieq (Int.ofNat (Sl.n s2)) (0:Int)) (m3_5 pu n ih0 z0 z1 z2 s0 z3 s2 s1 z4 (Int.ofNat k1) true) (bb (nt (ieq (Int.ofNat (Sl.n s2)) (0:Int))) (bb (nt (ieq (Int.tmod (wrapF .i64 (Int.add z1 (1:Int))) (Int.ofNat (Sl.n s2))) (0:Int))) (m3_5 pu n ih0 z0 z1 z2 s0 z3 s2 s1 z4 (Int.ofNat k1) true) (bb (ilt (0:Int) (Int.ofNat k1)) (oo (toN (wrapF .i64 (Int.sub (Int.ofNat k1) (1:Int)))) none fun k2=>(bb (an (Nat.blt k2 (Sl.n s0)) true) (oo (nthL (Sl.cs s0) (k2 * 1)) none fun v1=>(oo (toSl 1 v1) none fun s3=>(bb (an (Nat.blt 0 (Sl.n s3)) true) (oo (nthL (Sl.cs s3) (0 * 1)) none fun v2=>(oo (toSl 1 v2) none fun s4=>(bb (an (Nat.blt 0 (Sl.n s2)) true) (oo (nthL (Sl.cs s2) (0 * 1)) none fun v3=>(oo (toSl 1 v3) none fun s5=>(oo (pu 12 [Sl.v 1 s4,Sl.v 1 s5]) none fun v4=>(oo (toI .i64 v4) none fun x0=>(m3_5 pu n ih0 z0 z1 z2 s0 z3 s2 s1 z4 (Int.ofNat k1) (nt (ilt x0 (0:Int)))))))) none))) none))) none)) (m3_5 pu n ih0 z0 z1 z2 s0 z3 s2 s1 z4 (Int.ofNat k1) false))) none)))) none)) (m3_1 pu n z2 z3))
def l3_3 (pu:PureF) (n w:Nat):Int→Int→Int→Sl→Int→Sl→Int→Int→OV:=
 Nat.rec (motive:=fun _=>Int→Int→Int→Sl→Int→Sl→Int→Int→OV) (fun _ _ _ _ _ _ _ _=>none) (fun _ ih0=>b3_3 pu n ih0) w
def m3_0 (pu:PureF) (n:Nat) (z0 z1 z2:Int):OV:=
 (oo (pu 11 [.int .i64 z0]) none fun v0=>(oo (vTup v0) none fun l0=>(ll l0 none fun v1 l0=>(ll l0 none fun v2 l0=>(ll l0 (oo (toSl 1 v1) none fun s0=>(oo (toI .i64 v2) none fun x0=>(bb (nt (ieq x0 (0:Int))) (some (.bool false)) (l3_3 pu n n z0 z1 z2 s0 (0:Int) s0 (Int.ofNat (Sl.n s0)) (0:Int))))) fun _ _=>none)))))
def m3_10 (pu:PureF) (n:Nat) (ih0:Int→Int→Int→Sl→Int→Int→OV) (z0 z1 z2:Int) (s0:Sl) (z3 z4:Int):OV:=
 (ih0 z0 z1 z2 s0 z3 (wrapF .i64 (Int.add z4 (1:Int))))
def m3_12 (pu:PureF) (n:Nat) (ih0:Int→Int→Int→Sl→Int→Int→OV) (z0 z1 z2:Int) (b0:Bool) (s0:Sl) (z3 z4:Int) (b1:Bool):OV:=
 (bb b1 (some (.bool false)) (bb b0 (m3_10 pu n ih0 z0 z1 (wrapF .i64 (Int.add z2 (1:Int))) s0 z3 z4) (m3_10 pu n ih0 z0 z1 z2 s0 z3 z4)))
def m3_11 (pu:PureF) (n:Nat) (ih0:Int→Int→Int→Sl→Int→Int→OV) (z0 z1 z2:Int) (s0:Sl) (b0:Bool) (s1:Sl) (z3 z4:Int):OV:=
 (oo (pu 9 [Sl.v 1 s0]) none fun v0=>(oo (vTup v0) none fun l0=>(ll l0 none fun v1 l0=>(ll l0 none fun v2 l0=>(ll l0 (oo (vBool v1) none fun b1=>(oo (toI .i64 v2) none fun x0=>(bb (nt (ieq x0 (0:Int))) (m3_12 pu n ih0 z0 z1 z2 b1 s1 z3 z4 true) (bb (bq false (bq b1 b0)) (m3_12 pu n ih0 z0 z1 z2 b1 s1 z3 z4 true) (oo (pu 10 [Sl.v 1 s0]) none fun v3=>(oo (vBool v3) none fun b2=>(m3_12 pu n ih0 z0 z1 z2 b1 s1 z3 z4 (bq false (bq b0 b2))))))))) fun _ _=>none)))))
def m3_15 (pu:PureF) (n:Nat) (ih0:Int→Int→Int→Sl→Int→Int→OV) (ih1:Int→Int→Int→Sl→Bool→Int→Sl→Int→Int→OV) (z0 z1 z2:Int) (s0:Sl) (z3 z4:Int) (s1:Sl) (z5 z6:Int):OV:=
 (bb (ieq z4 (wrapF .i64 (Int.sub z1 z3))) (ih1 z0 z1 z2 s0 true (wrapF .i64 (Int.add z3 (1:Int))) s1 z5 z6) (ih1 z0 z1 z2 s0 (ieq z4 (wrapF .i64 (Int.add (wrapF .i64 (Int.sub z1 z3)) (1:Int)))) (wrapF .i64 (Int.add z3 (1:Int))) s1 z5 z6))
def m3_14 (pu:PureF) (n:Nat) (ih0:Int→Int→Int→Sl→Int→Int→OV) (ih1:Int→Int→Int→Sl→Bool→Int→Sl→Int→Int→OV) (z0 z1 z2:Int) (s0:Sl) (b0:Bool) (z3:Int) (s1:Sl) (z4 z5:Int) (b1:Bool):OV:=
 (bb b1 (bb (ilt z3 (Int.ofNat (Sl.n s0))) (oo (toN z3) none fun k1=>(bb (an (Nat.blt k1 (Sl.n s0)) true) (oo (nthL (Sl.cs s0) (k1 * 1)) none fun v0=>(oo (toI .i64 v0) none fun x0=>(m3_15 pu n ih0 ih1 z0 z1 z2 s0 (Int.ofNat k1) x0 s1 z4 z5))) none)) (m3_15 pu n ih0 ih1 z0 z1 z2 s0 z3 (0:Int) s1 z4 z5)) (m3_11 pu n ih0 z0 z1 z2 s0 b0 s1 z4 z5))
def b3_13 (pu:PureF) (n:Nat) (ih0:Int→Int→Int→Sl→Int→Int→OV) (ih1:Int→Int→Int→Sl→Bool→Int→Sl→Int→Int→OV) (z0 z1 z2:Int) (s0:Sl) (b0:Bool) (z3:Int) (s1:Sl) (z4 z5:Int):OV:=
 (bb (nt (ilt z1 z3)) (m3_14 pu n ih0 ih1 z0 z1 z2 s0 b0 z3 s1 z4 z5 b0) (m3_14 pu n ih0 ih1 z0 z1 z2 s0 b0 z3 s1 z4 z5 false))
def l3_13 (pu:PureF) (n:Nat) (ih0:Int→Int→Int→Sl→Int→Int→OV) (w:Nat):Int→Int→Int→Sl→Bool→Int→Sl→Int→Int→OV:=
 Nat.rec (motive:=fun _=>Int→Int→Int→Sl→Bool→Int→Sl→Int→Int→OV) (fun _ _ _ _ _ _ _ _ _=>none) (fun _ ih1=>b3_13 pu n ih0 ih1) w
def b3_9 (pu:PureF) (n:Nat) (ih0:Int→Int→Int→Sl→Int→Int→OV) (z0 z1 z2:Int) (s0:Sl) (z3 z4:Int):OV:=
 (bb (ilt z4 z3) (oo (toN z4) none fun k1=>(bb (an (Nat.blt k1 (Sl.n s0)) true) (oo (nthL (Sl.cs s0) (k1 * 1)) none fun v0=>(oo (toSl 1 v0) none fun s1=>(l3_13 pu n ih0 n z0 z1 z2 s1 (nt (ilt (wrapF .i64 (Int.add z1 (1:Int))) (Int.ofNat (Sl.n s1)))) (0:Int) s0 z3 (Int.ofNat k1)))) none)) (m3_0 pu n z0 z1 z2))
def l3_9 (pu:PureF) (n w:Nat):Int→Int→Int→Sl→Int→Int→OV:=
 Nat.rec (motive:=fun _=>Int→Int→Int→Sl→Int→Int→OV) (fun _ _ _ _ _ _=>none) (fun _ ih0=>b3_9 pu n ih0) w
def m3_ (pu:PureF) (n:Nat) (x1:Int):OV:=
 (oo (pu 7 [(.int .i64 (wrapF .i64 (Int.add (1:Int) (Int.tmod (wrapF .i64 x1) (12:Int)))))]) none fun v7=>(oo (toI .i64 v7) none fun x9=>(oo (pu 8 [(.int .i64 (wrapF .i64 (Int.add (1:Int) (Int.tmod (wrapF .i64 x1) (12:Int)))))]) none fun v0=>(oo (toSl 1 v0) none fun s0=>(l3_9 pu n n (wrapF .i64 (Int.add (1:Int) (Int.tmod (wrapF .i64 x1) (12:Int)))) x9 (0:Int) s0 (Int.ofNat (Sl.n s0)) (0:Int))))))
def m3 (pu:PureF) (n:Nat) (args:LV):OV:=
 (ll args none fun a0 args=>(ll args (oo (toI .u8 a0) none fun x1=>(m3_ pu n x1)) fun _ _=>none))
theorem w3_2 (pu:PureF) (n:Nat) (b0:Bool) {v:Value} (hm:m3_2 pu n b0 = some v):Run tt (callP tabs isP pu (inl pu)) 0 .ret (fr 193 [(2,zB b0)]) (hp 0 []) (Fin tt 0 [.tmp 2] v):=by
 unfold m3_2 at hm
 refine .ret ?_
 exact fin_ret (zB b0) (by kernel_rfl) (by kernel_rfl) hm
theorem w3_1 (pu:PureF) (n:Nat) (z0 z1:Int) {v:Value} (hm:m3_1 pu n z0 z1 = some v):Run tt (callP tabs isP pu (inl pu)) 0 c3_98 (fr 193 [(5,zI z0),(15,zI z1)]) (hp 0 []) (Fin tt 0 [.tmp 2] v):=by
 unfold m3_1 at hm
 refine .join (v:=v) (fun y:Bool=>((fr 193 [(2,zB y)]),(hp 0 []))) (fun y=>m3_2 pu n y) ?_ ?_
 ·rintro b0 hm
  exact w3_2 pu n b0 hm
 ·replace hm := bb_cases hm; rcases hm with ⟨h0, hm⟩ | ⟨h0, hm⟩
  ·replace hm := oo_inv hm; obtain ⟨v0, h1, hm⟩ := hm
   replace hm:=inv_vBool hm;obtain ⟨b1,rfl,hm⟩:=hm
   refine .reg (eC 2 (some ((zB (ieq z1 z0)),(hp 0 []))) (show _ = some ((zB true),_) from (by rw [h0])) (eC 1 ((oo (pu 16 []) none fun v=>some (v,(hp 0 [])))) (call_eq h1) (eE))) ?_
   exact ⟨b1,hm,(.k0 [] [] [2])⟩
  ·refine .reg (eC 2 (some ((zB (ieq z1 z0)), (hp 0 []))) (show _ = some ((zB false), _) from (by rw [h0])) (eE)) ?_
   exact ⟨false,hm,(.k0 [] [] [2])⟩
theorem w3_0 (pu:PureF) (n:Nat) (z0 z1 z2:Int) {v:Value} (hm:m3_0 pu n z0 z1 z2 = some v):Run tt (callP tabs isP pu (inl pu)) 0 c3_102 (fr 193 [(3,zI z0),(4,zI z1),(5,zI z2)]) (hp 0 []) (Fin tt 0 [.tmp 2] v):=by
 unfold m3_0 at hm
 refine .then ?_
 replace hm:=oo_inv hm;obtain ⟨v0,h0,hm⟩:=hm
 replace hm:=inv_vTup hm;obtain ⟨l0,rfl,hm⟩:=hm
 replace hm:=ll_uncons hm;obtain ⟨v1,l2439_0,rfl,hm⟩:=hm
 replace hm:=ll_uncons hm;obtain ⟨v2,l2439_1,rfl,hm⟩:=hm
 replace hm:=ll_end hm;obtain ⟨rfl,hm⟩:=hm
 replace hm:=inv_toSl hm;obtain ⟨s0,rfl,hm⟩:=hm
 replace hm:=inv_toI hm;obtain ⟨x0,rfl,hm⟩:=hm
 refine .reg (eC 1 ((oo (pu 11 [zI z0]) none fun v=>some (v,(hp 0 [])))) (call_eq h0) (eE)) ?_
 refine .ghs (fr 193 [(3,zI z0),(4,zI z1),(5,zI z2),(13,Sl.v 1 s0),(14,zI x0)]) (hp 0 []) (.k0 [] [] [3,4,5,13,14]) ?_
 refine .then ?_
 refine .then (.rK ?_)
 refine .ghs (fr 193 [(3,zI z0),(4,zI z1),(5,zI z2),(13,Sl.v 1 s0),(95,(zB (nt (ieq x0 (0:Int)))))]) (hp 0 []) (.k0 [] [] [3,4,5,13,95]) ?_
 replace hm:=bb_cases hm;rcases hm with ⟨h1,hm⟩ | ⟨h1,hm⟩
 ·refine .ifT (nt (ieq x0 (0 : Int))) (by kernel_rfl) h1 ?_
  refine .then (.rK ?_)
  refine .ghs (fr 193 [(2,zB false)]) (hp 0 []) (.k0 [] [] [2]) ?_
  refine .ret ?_
  exact fin_ret (zB false) (by kernel_rfl) (by kernel_rfl) hm
 ·refine .ifF (nt (ieq x0 (0 : Int))) (by kernel_rfl) h1 ?_
  refine .skip ?_
  refine .ghs (fr 193 [(3,zI z0),(4,zI z1),(5,zI z2),(13,Sl.v 1 s0)]) (hp 0 []) (.k0 [] [] [3,4,5,13]) ?_
  refine .then (.rK ?_)
  refine .ghs (fr 193 [(3,zI z0),(4,zI z1),(5,zI z2),(13,Sl.v 1 s0),(15,(zI (0:Int)))]) (hp 0 []) (.k0 [] [] [3,4,5,13,15]) ?_
  refine .join (v:=v) (fun y:Int×Int=>((fr 193 [(5,(zI y.1)),(15,(zI y.2))]),(hp 0 []))) (fun y=>m3_1 pu n y.1 y.2) ?_ ?_
  ·rintro ⟨z3, z4⟩ hm
   exact w3_1 pu n z3 z4 hm
  ·refine .then (.rK ?_)
   refine .ghs (fr 193 [(3,zI z0),(4,zI z1),(5,zI z2),(13,Sl.v 1 s0),(15,(zI (0:Int))),(96,Sl.v 1 s0),(97,(zI (Int.ofNat (Sl.n s0)))),(98,(zI (0:Int)))]) (hp 0 []) (.k0 [] [] [3,4,5,13,15,96,97,98]) ?_
   refine .block ?_
   refine .loopM (v:=v) (fun y:Int×Int×Int×Sl×Int×Sl×Int×Int=>((fr 193 [(3,(zI y.1)),(4,(zI y.2.1)),(5,(zI y.2.2.1)),(13,(Sl.v 1 y.2.2.2.1)),(15,(zI y.2.2.2.2.1)),(96,(Sl.v 1 y.2.2.2.2.2.1)),(97,(zI y.2.2.2.2.2.2.1)),(98,(zI y.2.2.2.2.2.2.2))]),(hp 0 []))) (fun w y=>l3_3 pu n w y.1 y.2.1 y.2.2.1 y.2.2.2.1 y.2.2.2.2.1 y.2.2.2.2.2.1 y.2.2.2.2.2.2.1 y.2.2.2.2.2.2.2) n ⟨(z0,z1,z2,s0,(0:Int),s0,(Int.ofNat (Sl.n s0)),(0:Int)),hm,(.k0 [] [] [3,4,5,13,15,96,97,98])⟩ (fun _=>rfl) ?_
   rintro w0 ⟨z5,z6,z7,s1,z8,s2,z9,z10⟩ hm
   replace hm:b3_3 pu n (l3_3 pu n w0) z5 z6 z7 s1 z8 s2 z9 z10 = some v:=hm
   unfold b3_3 at hm
   refine .then (.rK ?_)
   refine .ghs (fr 193 [(3,zI z5),(4,zI z6),(5,zI z7),(13,Sl.v 1 s1),(15,zI z8),(96,Sl.v 1 s2),(97,zI z9),(98,zI z10),(99,(zB (ilt z10 z9)))]) (hp 0 []) (.k0 [] [] [3,4,5,13,15,96,97,98,99]) ?_
   refine .then ?_
   replace hm:=bb_cases hm;rcases hm with ⟨h2,hm⟩ | ⟨h2,hm⟩
   ·refine .ifT (ilt z10 z9) (by kernel_rfl) h2 ?_
    refine .skip ?_
    refine .ghs (fr 193 [(3,zI z5),(4,zI z6),(5,zI z7),(13,Sl.v 1 s1),(15,zI z8),(96,Sl.v 1 s2),(97,zI z9),(98,zI z10)]) (hp 0 []) (.k0 [] [] [3,4,5,13,15,96,97,98]) ?_
    refine .join (v:=v) (fun y:Int×Int×Int×Sl×Int×Sl×Int×Int=>((fr 193 [(3,(zI y.1)),(4,(zI y.2.1)),(5,(zI y.2.2.1)),(13,(Sl.v 1 y.2.2.2.1)),(15,(zI y.2.2.2.2.1)),(96,(Sl.v 1 y.2.2.2.2.2.1)),(97,(zI y.2.2.2.2.2.2.1)),(98,(zI y.2.2.2.2.2.2.2))]),(hp 0 []))) (fun y=>m3_4 pu n (l3_3 pu n w0) y.1 y.2.1 y.2.2.1 y.2.2.2.1 y.2.2.2.2.1 y.2.2.2.2.2.1 y.2.2.2.2.2.2.1 y.2.2.2.2.2.2.2) ?_ ?_
    ·rintro ⟨z11, z12, z13, s3, z14, s4, z15, z16⟩ hm
     unfold m3_4 at hm
     refine .rK ?_
     exact ⟨(z11,z12,z13,s3,z14,s4,z15,(wrapF .i64 (Int.add z16 (1:Int)))),hm,(.k0 [] [] [3,4,5,13,15,96,97,98])⟩
    ·refine .block ?_
     refine .then ?_
     replace hm:=oo_inv hm;obtain ⟨k1,h3,hm⟩:=hm
     obtain rfl:=toN_some h3
     replace hm:=bb_inv hm;obtain ⟨h4,hm⟩:=hm
     replace hm:=oo_inv hm;obtain ⟨v3,h5,hm⟩:=hm
     replace hm:=inv_toSl hm;obtain ⟨s5,rfl,hm⟩:=hm
     refine .reg (eC 1 (keep (hp 0 []) (bb (an (Nat.blt k1 (Sl.n s2)) true) (some (fpV (k1 * 1) (Sl.cs s2))) none)) (keep_bb h4) (eD (keep (hp 0 []) (nthL (Sl.cs s2) (k1 * 1))) (keep_eq h5) (eE))) ?_
     refine .ghs (fr 193 [(3,zI z5),(4,zI z6),(5,zI z7),(13,Sl.v 1 s1),(15,zI z8),(16,(zI (Int.ofNat k1))),(17,Sl.v 1 s5),(96,Sl.v 1 s2),(97,zI z9),(98,(zI (Int.ofNat k1)))]) (hp 0 []) (.k0 [] [] [3,4,5,13,15,16,17,96,97,98]) ?_
     refine .then ?_
     refine .join (v:=v) (fun y:Int×Int×Int×Sl×Int×Sl×Sl×Int×Int×Bool=>((fr 193 [(3,(zI y.1)),(4,(zI y.2.1)),(5,(zI y.2.2.1)),(13,(Sl.v 1 y.2.2.2.1)),(15,(zI y.2.2.2.2.1)),(17,(Sl.v 1 y.2.2.2.2.2.1)),(96,(Sl.v 1 y.2.2.2.2.2.2.1)),(97,(zI y.2.2.2.2.2.2.2.1)),(98,(zI y.2.2.2.2.2.2.2.2.1)),(131,(zB y.2.2.2.2.2.2.2.2.2))]),(hp 0 []))) (fun y=>m3_5 pu n (l3_3 pu n w0) y.1 y.2.1 y.2.2.1 y.2.2.2.1 y.2.2.2.2.1 y.2.2.2.2.2.1 y.2.2.2.2.2.2.1 y.2.2.2.2.2.2.2.1 y.2.2.2.2.2.2.2.2.1 y.2.2.2.2.2.2.2.2.2) ?_ ?_
     ·rintro ⟨z17, z18, z19, s6, z20, s7, s8, z21, z22, b0⟩ hm
      unfold m3_5 at hm
      replace hm:=bb_cases hm;rcases hm with ⟨h6,hm⟩ | ⟨h6,hm⟩
      ·refine .ifT b0 (by kernel_rfl) h6 ?_
       refine .then (.rK ?_)
       refine .ghs (fr 193 [(2,zB false)]) (hp 0 []) (.k0 [] [] [2]) ?_
       refine .ret ?_
       exact fin_ret (zB false) (by kernel_rfl) (by kernel_rfl) hm
      ·refine .ifF b0 (by kernel_rfl) h6 ?_
       refine .skip ?_
       refine .ghs (fr 193 [(3,zI z17),(4,zI z18),(5,zI z19),(13,Sl.v 1 s6),(15,zI z20),(17,Sl.v 1 s7),(96,Sl.v 1 s8),(97,zI z21),(98,zI z22)]) (hp 0 []) (.k0 [] [] [3,4,5,13,15,17,96,97,98]) ?_
       refine .join (v:=v) (fun y:Int×Int×Int×Sl×Int×Sl×Sl×Int×Int=>((fr 193 [(3,(zI y.1)),(4,(zI y.2.1)),(5,(zI y.2.2.1)),(13,(Sl.v 1 y.2.2.2.1)),(15,(zI y.2.2.2.2.1)),(17,(Sl.v 1 y.2.2.2.2.2.1)),(96,(Sl.v 1 y.2.2.2.2.2.2.1)),(97,(zI y.2.2.2.2.2.2.2.1)),(98,(zI y.2.2.2.2.2.2.2.2))]),(hp 0 []))) (fun y=>m3_6 pu n (l3_3 pu n w0) y.1 y.2.1 y.2.2.1 y.2.2.2.1 y.2.2.2.2.1 y.2.2.2.2.2.1 y.2.2.2.2.2.2.1 y.2.2.2.2.2.2.2.1 y.2.2.2.2.2.2.2.2) ?_ ?_
       ·rintro ⟨z23, z24, z25, s9, z26, s10, s11, z27, z28⟩ hm
        unfold m3_6 at hm
        refine .rK ?_
        exact ⟨(z23,z24,z25,s9,(wrapF .i64 (Int.add z26 (Int.ofNat (Sl.n s10)))),s11,z27,z28),hm,(.k0 [] [] [3,4,5,13,15,96,97,98])⟩
       ·refine .then (.rK ?_)
        refine .ghs (fr 193 [(3,zI z17),(4,zI z18),(5,zI z19),(13,Sl.v 1 s6),(15,zI z20),(17,Sl.v 1 s7),(96,Sl.v 1 s8),(97,zI z21),(98,zI z22),(132,Sl.v 1 s7),(133,(zI (Int.ofNat (Sl.n s7)))),(134,(zI (0:Int)))]) (hp 0 []) (.k0 [] [] [3,4,5,13,15,17,96,97,98,132,133,134]) ?_
        refine .block ?_
        refine .loopM (v:=v) (fun y:Int×Int×Int×Sl×Int×Sl×Sl×Int×Int×Sl×Int×Int=>((fr 193 [(3,(zI y.1)),(4,(zI y.2.1)),(5,(zI y.2.2.1)),(13,(Sl.v 1 y.2.2.2.1)),(15,(zI y.2.2.2.2.1)),(17,(Sl.v 1 y.2.2.2.2.2.1)),(96,(Sl.v 1 y.2.2.2.2.2.2.1)),(97,(zI y.2.2.2.2.2.2.2.1)),(98,(zI y.2.2.2.2.2.2.2.2.1)),(132,(Sl.v 1 y.2.2.2.2.2.2.2.2.2.1)),(133,(zI y.2.2.2.2.2.2.2.2.2.2.1)),(134,(zI y.2.2.2.2.2.2.2.2.2.2.2))]),(hp 0 []))) (fun w y=>l3_7 pu n (l3_3 pu n w0) w y.1 y.2.1 y.2.2.1 y.2.2.2.1 y.2.2.2.2.1 y.2.2.2.2.2.1 y.2.2.2.2.2.2.1 y.2.2.2.2.2.2.2.1 y.2.2.2.2.2.2.2.2.1 y.2.2.2.2.2.2.2.2.2.1 y.2.2.2.2.2.2.2.2.2.2.1 y.2.2.2.2.2.2.2.2.2.2.2) n ⟨(z17,z18,z19,s6,z20,s7,s8,z21,z22,s7,(Int.ofNat (Sl.n s7)),(0:Int)),hm,(.k0 [] [] [3,4,5,13,15,17,96,97,98,132,133,134])⟩ (fun _=>rfl) ?_
        rintro w1 ⟨z29,z30,z31,s12,z32,s13,s14,z33,z34,s15,z35,z36⟩ hm
        replace hm:b3_7 pu n (l3_3 pu n w0) (l3_7 pu n (l3_3 pu n w0) w1) z29 z30 z31 s12 z32 s13 s14 z33 z34 s15 z35 z36 = some v:=hm
        unfold b3_7 at hm
        refine .then (.rK ?_)
        refine .ghs (fr 193 [(3,zI z29),(4,zI z30),(5,zI z31),(13,Sl.v 1 s12),(15,zI z32),(17,Sl.v 1 s13),(96,Sl.v 1 s14),(97,zI z33),(98,zI z34),(132,Sl.v 1 s15),(133,zI z35),(134,zI z36),(135,(zB (ilt z36 z35)))]) (hp 0 []) (.k0 [] [] [3,4,5,13,15,17,96,97,98,132,133,134,135]) ?_
        refine .then ?_
        replace hm:=bb_cases hm;rcases hm with ⟨h7,hm⟩ | ⟨h7,hm⟩
        ·refine .ifT (ilt z36 z35) (by kernel_rfl) h7 ?_
         refine .skip ?_
         refine .ghs (fr 193 [(3,zI z29),(4,zI z30),(5,zI z31),(13,Sl.v 1 s12),(15,zI z32),(17,Sl.v 1 s13),(96,Sl.v 1 s14),(97,zI z33),(98,zI z34),(132,Sl.v 1 s15),(133,zI z35),(134,zI z36)]) (hp 0 []) (.k0 [] [] [3,4,5,13,15,17,96,97,98,132,133,134]) ?_
         refine .then ?_
         refine .block ?_
         refine .then ?_
         replace hm:=oo_inv hm;obtain ⟨k2,h8,hm⟩:=hm
         obtain rfl:=toN_some h8
         replace hm:=bb_inv hm;obtain ⟨h9,hm⟩:=hm
         replace hm:=oo_inv hm;obtain ⟨v4,h10,hm⟩:=hm
         replace hm:=inv_toSl hm;obtain ⟨s16,rfl,hm⟩:=hm
         refine .reg (eC 1 (keep (hp 0 []) (bb (an (Nat.blt k2 (Sl.n s15)) true) (some (fpV (k2 * 1) (Sl.cs s15))) none)) (keep_bb h9) (eD (keep (hp 0 []) (nthL (Sl.cs s15) (k2 * 1))) (keep_eq h10) (eE))) ?_
         refine .ghs (fr 193 [(3,zI z29),(4,zI z30),(5,zI z31),(13,Sl.v 1 s12),(15,zI z32),(17,Sl.v 1 s13),(18,(zI (Int.ofNat k2))),(19,Sl.v 1 s16),(96,Sl.v 1 s14),(97,zI z33),(98,zI z34),(132,Sl.v 1 s15),(133,zI z35),(134,(zI (Int.ofNat k2)))]) (hp 0 []) (.k0 [] [] [3,4,5,13,15,17,18,19,96,97,98,132,133,134]) ?_
         refine .join (v:=v) (fun y:Int×Int×Int×Sl×Int×Sl×Sl×Int×Int×Sl×Int×Int×Bool=>((fr 193 [(3,(zI y.1)),(4,(zI y.2.1)),(5,(zI y.2.2.1)),(13,(Sl.v 1 y.2.2.2.1)),(15,(zI y.2.2.2.2.1)),(17,(Sl.v 1 y.2.2.2.2.2.1)),(96,(Sl.v 1 y.2.2.2.2.2.2.1)),(97,(zI y.2.2.2.2.2.2.2.1)),(98,(zI y.2.2.2.2.2.2.2.2.1)),(132,(Sl.v 1 y.2.2.2.2.2.2.2.2.2.1)),(133,(zI y.2.2.2.2.2.2.2.2.2.2.1)),(134,(zI y.2.2.2.2.2.2.2.2.2.2.2.1)),(180,(zB y.2.2.2.2.2.2.2.2.2.2.2.2))]),(hp 0 []))) (fun y=>m3_8 pu n (l3_3 pu n w0) (l3_7 pu n (l3_3 pu n w0) w1) y.1 y.2.1 y.2.2.1 y.2.2.2.1 y.2.2.2.2.1 y.2.2.2.2.2.1 y.2.2.2.2.2.2.1 y.2.2.2.2.2.2.2.1 y.2.2.2.2.2.2.2.2.1 y.2.2.2.2.2.2.2.2.2.1 y.2.2.2.2.2.2.2.2.2.2.1 y.2.2.2.2.2.2.2.2.2.2.2.1 y.2.2.2.2.2.2.2.2.2.2.2.2) ?_ ?_
         ·rintro ⟨z37, z38, z39, s17, z40, s18, s19, z41, z42, s20, z43, z44, b1⟩ hm
          unfold m3_8 at hm
          replace hm:=bb_cases hm;rcases hm with ⟨h11,hm⟩ | ⟨h11,hm⟩
          ·refine .ifT b1 (by kernel_rfl) h11 ?_
           refine .then (.rK ?_)
           refine .ghs (fr 193 [(2,zB false)]) (hp 0 []) (.k0 [] [] [2]) ?_
           refine .ret ?_
           exact fin_ret (zB false) (by kernel_rfl) (by kernel_rfl) hm
          ·refine .ifF b1 (by kernel_rfl) h11 ?_
           refine .skip ?_
           refine .ghs (fr 193 [(3,zI z37),(4,zI z38),(5,zI z39),(13,Sl.v 1 s17),(15,zI z40),(17,Sl.v 1 s18),(96,Sl.v 1 s19),(97,zI z41),(98,zI z42),(132,Sl.v 1 s20),(133,zI z43),(134,zI z44)]) (hp 0 []) (.k0 [] [] [3,4,5,13,15,17,96,97,98,132,133,134]) ?_
           refine .rK ?_
           exact ⟨(z37,z38,z39,s17,z40,s18,s19,z41,z42,s20,z43,(wrapF .i64 (Int.add z44 (1:Int)))),hm,(.k0 [] [] [3,4,5,13,15,17,96,97,98,132,133,134])⟩
         ·replace hm := bb_cases hm; rcases hm with ⟨h12, hm⟩ | ⟨h12, hm⟩
          ·refine .reg (eC 2 (some ((zB (ieq (Int.ofNat (Sl.n s16)) (0 : Int))), (hp 0 []))) (show _ = some ((zB true), _) from (by rw [h12])) (eE)) ?_
           exact ⟨(z29,z30,z31,s12,z32,s13,s14,z33,z34,s15,z35,(Int.ofNat k2),true),hm,(.k0 [] [] [3,4,5,13,15,17,96,97,98,132,133,134,180])⟩
          ·replace hm := oo_inv hm; obtain ⟨v5, h13, hm⟩ := hm
           replace hm:=inv_toI hm;obtain ⟨x1,rfl,hm⟩:=hm
           replace hm:=bb_cases hm;rcases hm with ⟨h14,hm⟩ | ⟨h14,hm⟩
           ·refine .reg (eC 2 (some ((zB (ieq (Int.ofNat (Sl.n s16)) (0 : Int))), (hp 0 []))) (show _ = some ((zB false), _) from (by rw [h12])) (eC 3 ((oo (pu 13 [Sl.v 1 s16]) none fun v => some (v, (hp 0 [])))) (call_eq h13) (eD (some ((zB (nt (ieq x1 z29))), (hp 0 []))) (show _ = some ((zB true), _) from (by rw [h14])) (eE)))) ?_
            exact ⟨(z29,z30,z31,s12,z32,s13,s14,z33,z34,s15,z35,(Int.ofNat k2),true),hm,(.k0 [] [] [3,4,5,13,15,17,96,97,98,132,133,134,180])⟩
           ·replace hm := bb_inv hm; obtain ⟨h15, hm⟩ := hm
            replace hm:=oo_inv hm;obtain ⟨k3,h16,hm⟩:=hm
            replace hm:=bb_inv hm;obtain ⟨h17,hm⟩:=hm
            replace hm:=oo_inv hm;obtain ⟨v6,h18,hm⟩:=hm
            replace hm:=inv_toSl hm;obtain ⟨s21,rfl,hm⟩:=hm
            replace hm:=oo_inv hm;obtain ⟨v7,h19,hm⟩:=hm
            replace hm:=inv_toSl hm;obtain ⟨s22,rfl,hm⟩:=hm
            replace hm:=oo_inv hm;obtain ⟨v8,h20,hm⟩:=hm
            replace hm:=inv_vBool hm;obtain ⟨b2,rfl,hm⟩:=hm
            replace hm:=bb_cases hm;rcases hm with ⟨h21,hm⟩ | ⟨h21,hm⟩
            ·refine .reg (eN 8 (Fr.puts (fr 193 [(3, zI z29), (4, zI z30), (5, zI z31), (13, Sl.v 1 s12), (15, zI z32), (17, Sl.v 1 s13), (18, (zI (Int.ofNat k2))), (19, Sl.v 1 s16), (96, Sl.v 1 s14), (97, zI z33), (98, zI z34), (132, Sl.v 1 s15), (133, zI z35), (134, (zI (Int.ofNat k2)))]) [(139, Sl.v 1 s16), (140, (zI (Int.ofNat (Sl.n s16)))), (141, zB false), (142, zB false), (143, Sl.v 1 s16), (145, zI z29), (144, zI x1), (146, zB false)]) (hp 0 []) (eC 2 (some ((zB (ieq (Int.ofNat (Sl.n s16)) (0 : Int))), (hp 0 []))) (show _ = some ((zB false), _) from (by rw [h12])) (eC 3 ((oo (pu 13 [Sl.v 1 s16]) none fun v => some (v, (hp 0 [])))) (call_eq h13) (eD (some ((zB (nt (ieq x1 z29))), (hp 0 []))) (show _ = some ((zB false), _) from (by rw [h14])) (by kernel_rfl)))) (eN 11 (Fr.puts (fr 193 [(3, zI z29), (4, zI z30), (5, zI z31), (13, Sl.v 1 s12), (15, zI z32), (17, Sl.v 1 s13), (18, (zI (Int.ofNat k2))), (19, Sl.v 1 s16), (96, Sl.v 1 s14), (97, zI z33), (98, zI z34), (132, Sl.v 1 s15), (133, zI z35), (134, (zI (Int.ofNat k2)))]) [(139, Sl.v 1 s16), (140, (zI (Int.ofNat (Sl.n s16)))), (141, zB false), (142, zB false), (143, Sl.v 1 s16), (145, zI z29), (144, zI x1), (146, zB false), (147, zB false), (148, zB false), (149, Sl.v 1 s16), (151, Sl.v 1 s13), (152, (zI (Int.ofNat k2))), (153, (zI (wrapF .i64 (Int.add (Int.ofNat k2) (1 : Int))))), (154, Sl.v 1 s13), (155, (zI (Int.ofNat (Sl.n s13)))), (156, (zI (Int.ofNat k3))), (157, (fpV (k3 * 1) (Sl.cs s13))), (158, Sl.v 1 s21)]) (hp 0 []) (eC 8 (keep (hp 0 []) (bb (ieq (Int.ofNat (Sl.n s13)) (0 : Int)) none (some (zI (Int.tmod (wrapF .i64 (Int.add (Int.ofNat k2) (1 : Int))) (Int.ofNat (Sl.n s13))))))) (show _ = some ((zI (Int.ofNat k3)), _) from (nat_eq (X := (Int.tmod (wrapF .i64 (Int.add (Int.ofNat k2) (1 : Int))) (Int.ofNat (Sl.n s13)))) (keep_nb h15) h16)) (eD (keep (hp 0 []) (bb (an (Nat.blt k3 (Sl.n s13)) true) (some (fpV (k3 * 1) (Sl.cs s13))) none)) (keep_bb h17) (eD (keep (hp 0 []) (nthL (Sl.cs s13) (k3 * 1))) (keep_eq h18) (by kernel_rfl)))) (eD ((oo (pu 15 [Sl.v 1 s16]) none fun v => some (v, (hp 0 [])))) (call_eq h19) (eD ((oo (pu 14 [Sl.v 1 s22, Sl.v 1 s21]) none fun v => some (v, (hp 0 [])))) (call_eq h20) (eD (some ((zB (nt b2)), (hp 0 []))) (show _ = some ((zB true), _) from (by rw [h21])) (eE)))))) ?_
             exact ⟨(z29,z30,z31,s12,z32,s13,s14,z33,z34,s15,z35,(Int.ofNat k2),true),hm,(.k0 [] [] [3,4,5,13,15,17,96,97,98,132,133,134,180])⟩
            ·replace hm := bb_inv hm; obtain ⟨h22, hm⟩ := hm
             replace hm:=oo_inv hm;obtain ⟨v9,h23,hm⟩:=hm
             replace hm:=inv_toSl hm;obtain ⟨s23,rfl,hm⟩:=hm
             replace hm:=oo_inv hm;obtain ⟨v10,h24,hm⟩:=hm
             replace hm:=inv_toI hm;obtain ⟨x2,rfl,hm⟩:=hm
             replace hm:=bb_cases hm;rcases hm with ⟨h25,hm⟩ | ⟨h25,hm⟩
             ·refine .reg (eN 8 (Fr.puts (fr 193 [(3, zI z29), (4, zI z30), (5, zI z31), (13, Sl.v 1 s12), (15, zI z32), (17, Sl.v 1 s13), (18, (zI (Int.ofNat k2))), (19, Sl.v 1 s16), (96, Sl.v 1 s14), (97, zI z33), (98, zI z34), (132, Sl.v 1 s15), (133, zI z35), (134, (zI (Int.ofNat k2)))]) [(139, Sl.v 1 s16), (140, (zI (Int.ofNat (Sl.n s16)))), (141, zB false), (142, zB false), (143, Sl.v 1 s16), (145, zI z29), (144, zI x1), (146, zB false)]) (hp 0 []) (eC 2 (some ((zB (ieq (Int.ofNat (Sl.n s16)) (0 : Int))), (hp 0 []))) (show _ = some ((zB false), _) from (by rw [h12])) (eC 3 ((oo (pu 13 [Sl.v 1 s16]) none fun v => some (v, (hp 0 [])))) (call_eq h13) (eD (some ((zB (nt (ieq x1 z29))), (hp 0 []))) (show _ = some ((zB false), _) from (by rw [h14])) (by kernel_rfl)))) (eN 11 (Fr.puts (fr 193 [(3, zI z29), (4, zI z30), (5, zI z31), (13, Sl.v 1 s12), (15, zI z32), (17, Sl.v 1 s13), (18, (zI (Int.ofNat k2))), (19, Sl.v 1 s16), (96, Sl.v 1 s14), (97, zI z33), (98, zI z34), (132, Sl.v 1 s15), (133, zI z35), (134, (zI (Int.ofNat k2)))]) [(139, Sl.v 1 s16), (140, (zI (Int.ofNat (Sl.n s16)))), (141, zB false), (142, zB false), (143, Sl.v 1 s16), (145, zI z29), (144, zI x1), (146, zB false), (147, zB false), (148, zB false), (149, Sl.v 1 s16), (151, Sl.v 1 s13), (152, (zI (Int.ofNat k2))), (153, (zI (wrapF .i64 (Int.add (Int.ofNat k2) (1 : Int))))), (154, Sl.v 1 s13), (155, (zI (Int.ofNat (Sl.n s13)))), (156, (zI (Int.ofNat k3))), (157, (fpV (k3 * 1) (Sl.cs s13))), (158, Sl.v 1 s21)]) (hp 0 []) (eC 8 (keep (hp 0 []) (bb (ieq (Int.ofNat (Sl.n s13)) (0 : Int)) none (some (zI (Int.tmod (wrapF .i64 (Int.add (Int.ofNat k2) (1 : Int))) (Int.ofNat (Sl.n s13))))))) (show _ = some ((zI (Int.ofNat k3)), _) from (nat_eq (X := (Int.tmod (wrapF .i64 (Int.add (Int.ofNat k2) (1 : Int))) (Int.ofNat (Sl.n s13)))) (keep_nb h15) h16)) (eD (keep (hp 0 []) (bb (an (Nat.blt k3 (Sl.n s13)) true) (some (fpV (k3 * 1) (Sl.cs s13))) none)) (keep_bb h17) (eD (keep (hp 0 []) (nthL (Sl.cs s13) (k3 * 1))) (keep_eq h18) (by kernel_rfl)))) (eN 3 (Fr.puts (fr 193 [(3, zI z29), (4, zI z30), (5, zI z31), (13, Sl.v 1 s12), (15, zI z32), (17, Sl.v 1 s13), (18, (zI (Int.ofNat k2))), (19, Sl.v 1 s16), (96, Sl.v 1 s14), (97, zI z33), (98, zI z34), (132, Sl.v 1 s15), (133, zI z35), (134, (zI (Int.ofNat k2)))]) [(139, Sl.v 1 s16), (140, (zI (Int.ofNat (Sl.n s16)))), (141, zB false), (142, zB false), (143, Sl.v 1 s16), (145, zI z29), (144, zI x1), (146, zB false), (147, zB false), (148, zB false), (149, Sl.v 1 s16), (151, Sl.v 1 s13), (152, (zI (Int.ofNat k2))), (153, (zI (wrapF .i64 (Int.add (Int.ofNat k2) (1 : Int))))), (154, Sl.v 1 s13), (155, (zI (Int.ofNat (Sl.n s13)))), (156, (zI (Int.ofNat k3))), (157, (fpV (k3 * 1) (Sl.cs s13))), (158, Sl.v 1 s21), (150, Sl.v 1 s22), (159, zB b2), (160, zB false)]) (hp 0 []) (eD ((oo (pu 15 [Sl.v 1 s16]) none fun v => some (v, (hp 0 [])))) (call_eq h19) (eD ((oo (pu 14 [Sl.v 1 s22, Sl.v 1 s21]) none fun v => some (v, (hp 0 [])))) (call_eq h20) (eD (some ((zB (nt b2)), (hp 0 []))) (show _ = some ((zB false), _) from (by rw [h21])) (by kernel_rfl)))) (eC 4 (keep (hp 0 []) (bb (an (Nat.blt 0 (Sl.n s13)) true) (some (fpV (0 * 1) (Sl.cs s13))) none)) (keep_bb h22) (eD (keep (hp 0 []) (nthL (Sl.cs s13) (0 * 1))) (keep_eq h23) (eD ((oo (pu 12 [Sl.v 1 s16, Sl.v 1 s23]) none fun v => some (v, (hp 0 [])))) (call_eq h24) (eD (some ((zB (ilt x2 (0 : Int))), (hp 0 []))) (show _ = some ((zB true), _) from (by rw [h25])) (eE)))))))) ?_
              exact ⟨(z29,z30,z31,s12,z32,s13,s14,z33,z34,s15,z35,(Int.ofNat k2),true),hm,(.k0 [] [] [3,4,5,13,15,17,96,97,98,132,133,134,180])⟩
             ·replace hm := bb_cases hm; rcases hm with ⟨h26, hm⟩ | ⟨h26, hm⟩
              ·replace hm := bb_inv hm; obtain ⟨h27, hm⟩ := hm
               replace hm:=oo_inv hm;obtain ⟨v11,h28,hm⟩:=hm
               replace hm:=inv_toSl hm;obtain ⟨s24,rfl,hm⟩:=hm
               replace hm:=oo_inv hm;obtain ⟨v12,h29,hm⟩:=hm
               replace hm:=inv_vBool hm;obtain ⟨b4,rfl,hm⟩:=hm
               refine .reg (eN 8 (Fr.puts (fr 193 [(3,zI z29),(4,zI z30),(5,zI z31),(13,Sl.v 1 s12),(15,zI z32),(17,Sl.v 1 s13),(18,(zI (Int.ofNat k2))),(19,Sl.v 1 s16),(96,Sl.v 1 s14),(97,zI z33),(98,zI z34),(132,Sl.v 1 s15),(133,zI z35),(134,(zI (Int.ofNat k2)))]) [(139,Sl.v 1 s16),(140,(zI (Int.ofNat (Sl.n s16)))),(141,zB false),(142,zB false),(143,Sl.v 1 s16),(145,zI z29),(144,zI x1),(146,zB false)]) (hp 0 []) (eC 2 (some ((zB (ieq (Int.ofNat (Sl.n s16)) (0:Int))),(hp 0 []))) (show _ = some ((zB false),_) from (by rw [h12])) (eC 3 ((oo (pu 13 [Sl.v 1 s16]) none fun v=>some (v,(hp 0 [])))) (call_eq h13) (eD (some ((zB (nt (ieq x1 z29))),(hp 0 []))) (show _ = some ((zB false),_) from (by rw [h14])) (by kernel_rfl)))) (eN 11 (Fr.puts (fr 193 [(3,zI z29),(4,zI z30),(5,zI z31),(13,Sl.v 1 s12),(15,zI z32),(17,Sl.v 1 s13),(18,(zI (Int.ofNat k2))),(19,Sl.v 1 s16),(96,Sl.v 1 s14),(97,zI z33),(98,zI z34),(132,Sl.v 1 s15),(133,zI z35),(134,(zI (Int.ofNat k2)))]) [(139,Sl.v 1 s16),(140,(zI (Int.ofNat (Sl.n s16)))),(141,zB false),(142,zB false),(143,Sl.v 1 s16),(145,zI z29),(144,zI x1),(146,zB false),(147,zB false),(148,zB false),(149,Sl.v 1 s16),(151,Sl.v 1 s13),(152,(zI (Int.ofNat k2))),(153,(zI (wrapF .i64 (Int.add (Int.ofNat k2) (1:Int))))),(154,Sl.v 1 s13),(155,(zI (Int.ofNat (Sl.n s13)))),(156,(zI (Int.ofNat k3))),(157,(fpV (k3 * 1) (Sl.cs s13))),(158,Sl.v 1 s21)]) (hp 0 []) (eC 8 (keep (hp 0 []) (bb (ieq (Int.ofNat (Sl.n s13)) (0:Int)) none (some (zI (Int.tmod (wrapF .i64 (Int.add (Int.ofNat k2) (1:Int))) (Int.ofNat (Sl.n s13))))))) (show _ = some ((zI (Int.ofNat k3)),_) from (nat_eq (X:=(Int.tmod (wrapF .i64 (Int.add (Int.ofNat k2) (1:Int))) (Int.ofNat (Sl.n s13)))) (keep_nb h15) h16)) (eD (keep (hp 0 []) (bb (an (Nat.blt k3 (Sl.n s13)) true) (some (fpV (k3 * 1) (Sl.cs s13))) none)) (keep_bb h17) (eD (keep (hp 0 []) (nthL (Sl.cs s13) (k3 * 1))) (keep_eq h18) (by kernel_rfl)))) (eN 3 (Fr.puts (fr 193 [(3,zI z29),(4,zI z30),(5,zI z31),(13,Sl.v 1 s12),(15,zI z32),(17,Sl.v 1 s13),(18,(zI (Int.ofNat k2))),(19,Sl.v 1 s16),(96,Sl.v 1 s14),(97,zI z33),(98,zI z34),(132,Sl.v 1 s15),(133,zI z35),(134,(zI (Int.ofNat k2)))]) [(139,Sl.v 1 s16),(140,(zI (Int.ofNat (Sl.n s16)))),(141,zB false),(142,zB false),(143,Sl.v 1 s16),(145,zI z29),(144,zI x1),(146,zB false),(147,zB false),(148,zB false),(149,Sl.v 1 s16),(151,Sl.v 1 s13),(152,(zI (Int.ofNat k2))),(153,(zI (wrapF .i64 (Int.add (Int.ofNat k2) (1:Int))))),(154,Sl.v 1 s13),(155,(zI (Int.ofNat (Sl.n s13)))),(156,(zI (Int.ofNat k3))),(157,(fpV (k3 * 1) (Sl.cs s13))),(158,Sl.v 1 s21),(150,Sl.v 1 s22),(159,zB b2),(160,zB false)]) (hp 0 []) (eD ((oo (pu 15 [Sl.v 1 s16]) none fun v=>some (v,(hp 0 [])))) (call_eq h19) (eD ((oo (pu 14 [Sl.v 1 s22,Sl.v 1 s21]) none fun v=>some (v,(hp 0 [])))) (call_eq h20) (eD (some ((zB (nt b2)),(hp 0 []))) (show _ = some ((zB false),_) from (by rw [h21])) (by kernel_rfl)))) (eN 7 (Fr.puts (fr 193 [(3,zI z29),(4,zI z30),(5,zI z31),(13,Sl.v 1 s12),(15,zI z32),(17,Sl.v 1 s13),(18,(zI (Int.ofNat k2))),(19,Sl.v 1 s16),(96,Sl.v 1 s14),(97,zI z33),(98,zI z34),(132,Sl.v 1 s15),(133,zI z35),(134,(zI (Int.ofNat k2)))]) [(139,Sl.v 1 s16),(140,(zI (Int.ofNat (Sl.n s16)))),(141,zB false),(142,zB false),(143,Sl.v 1 s16),(145,zI z29),(144,zI x1),(146,zB false),(147,zB false),(148,zB false),(149,Sl.v 1 s16),(151,Sl.v 1 s13),(152,(zI (Int.ofNat k2))),(153,(zI (wrapF .i64 (Int.add (Int.ofNat k2) (1:Int))))),(154,Sl.v 1 s13),(155,(zI (Int.ofNat (Sl.n s13)))),(156,(zI (Int.ofNat k3))),(157,(fpV (k3 * 1) (Sl.cs s13))),(158,Sl.v 1 s21),(150,Sl.v 1 s22),(159,zB b2),(160,zB false),(161,zB false),(162,zB false),(163,Sl.v 1 s16),(164,Sl.v 1 s13),(165,(fpV (0 * 1) (Sl.cs s13))),(166,Sl.v 1 s23),(167,zI x2)]) (hp 0 []) (eC 4 (keep (hp 0 []) (bb (an (Nat.blt 0 (Sl.n s13)) true) (some (fpV (0 * 1) (Sl.cs s13))) none)) (keep_bb h22) (eD (keep (hp 0 []) (nthL (Sl.cs s13) (0 * 1))) (keep_eq h23) (eD ((oo (pu 12 [Sl.v 1 s16,Sl.v 1 s23]) none fun v=>some (v,(hp 0 [])))) (call_eq h24) (by kernel_rfl)))) (eD (some ((zB (ilt x2 (0:Int))),(hp 0 []))) (show _ = some ((zB false),_) from (by rw [h25])) (eC 3 (some ((zB (ilt (0:Int) (Int.ofNat k2))),(hp 0 []))) (show _ = some ((zB true),_) from (by rw [h26])) (eC 3 (keep (hp 0 []) (bb (an (Nat.blt 0 (Sl.n s13)) true) (some (fpV (0 * 1) (Sl.cs s13))) none)) (keep_bb h27) (eD (keep (hp 0 []) (nthL (Sl.cs s13) (0 * 1))) (keep_eq h28) (eD ((oo (pu 14 [Sl.v 1 s16,Sl.v 1 s24]) none fun v=>some (v,(hp 0 [])))) (call_eq h29) (eE)))))))))) ?_
               exact ⟨(z29,z30,z31,s12,z32,s13,s14,z33,z34,s15,z35,(Int.ofNat k2),b4),hm,(.k0 [] [] [3,4,5,13,15,17,96,97,98,132,133,134,180])⟩
              ·refine .reg (eN 8 (Fr.puts (fr 193 [(3, zI z29), (4, zI z30), (5, zI z31), (13, Sl.v 1 s12), (15, zI z32), (17, Sl.v 1 s13), (18, (zI (Int.ofNat k2))), (19, Sl.v 1 s16), (96, Sl.v 1 s14), (97, zI z33), (98, zI z34), (132, Sl.v 1 s15), (133, zI z35), (134, (zI (Int.ofNat k2)))]) [(139, Sl.v 1 s16), (140, (zI (Int.ofNat (Sl.n s16)))), (141, zB false), (142, zB false), (143, Sl.v 1 s16), (145, zI z29), (144, zI x1), (146, zB false)]) (hp 0 []) (eC 2 (some ((zB (ieq (Int.ofNat (Sl.n s16)) (0 : Int))), (hp 0 []))) (show _ = some ((zB false), _) from (by rw [h12])) (eC 3 ((oo (pu 13 [Sl.v 1 s16]) none fun v => some (v, (hp 0 [])))) (call_eq h13) (eD (some ((zB (nt (ieq x1 z29))), (hp 0 []))) (show _ = some ((zB false), _) from (by rw [h14])) (by kernel_rfl)))) (eN 11 (Fr.puts (fr 193 [(3, zI z29), (4, zI z30), (5, zI z31), (13, Sl.v 1 s12), (15, zI z32), (17, Sl.v 1 s13), (18, (zI (Int.ofNat k2))), (19, Sl.v 1 s16), (96, Sl.v 1 s14), (97, zI z33), (98, zI z34), (132, Sl.v 1 s15), (133, zI z35), (134, (zI (Int.ofNat k2)))]) [(139, Sl.v 1 s16), (140, (zI (Int.ofNat (Sl.n s16)))), (141, zB false), (142, zB false), (143, Sl.v 1 s16), (145, zI z29), (144, zI x1), (146, zB false), (147, zB false), (148, zB false), (149, Sl.v 1 s16), (151, Sl.v 1 s13), (152, (zI (Int.ofNat k2))), (153, (zI (wrapF .i64 (Int.add (Int.ofNat k2) (1 : Int))))), (154, Sl.v 1 s13), (155, (zI (Int.ofNat (Sl.n s13)))), (156, (zI (Int.ofNat k3))), (157, (fpV (k3 * 1) (Sl.cs s13))), (158, Sl.v 1 s21)]) (hp 0 []) (eC 8 (keep (hp 0 []) (bb (ieq (Int.ofNat (Sl.n s13)) (0 : Int)) none (some (zI (Int.tmod (wrapF .i64 (Int.add (Int.ofNat k2) (1 : Int))) (Int.ofNat (Sl.n s13))))))) (show _ = some ((zI (Int.ofNat k3)), _) from (nat_eq (X := (Int.tmod (wrapF .i64 (Int.add (Int.ofNat k2) (1 : Int))) (Int.ofNat (Sl.n s13)))) (keep_nb h15) h16)) (eD (keep (hp 0 []) (bb (an (Nat.blt k3 (Sl.n s13)) true) (some (fpV (k3 * 1) (Sl.cs s13))) none)) (keep_bb h17) (eD (keep (hp 0 []) (nthL (Sl.cs s13) (k3 * 1))) (keep_eq h18) (by kernel_rfl)))) (eN 3 (Fr.puts (fr 193 [(3, zI z29), (4, zI z30), (5, zI z31), (13, Sl.v 1 s12), (15, zI z32), (17, Sl.v 1 s13), (18, (zI (Int.ofNat k2))), (19, Sl.v 1 s16), (96, Sl.v 1 s14), (97, zI z33), (98, zI z34), (132, Sl.v 1 s15), (133, zI z35), (134, (zI (Int.ofNat k2)))]) [(139, Sl.v 1 s16), (140, (zI (Int.ofNat (Sl.n s16)))), (141, zB false), (142, zB false), (143, Sl.v 1 s16), (145, zI z29), (144, zI x1), (146, zB false), (147, zB false), (148, zB false), (149, Sl.v 1 s16), (151, Sl.v 1 s13), (152, (zI (Int.ofNat k2))), (153, (zI (wrapF .i64 (Int.add (Int.ofNat k2) (1 : Int))))), (154, Sl.v 1 s13), (155, (zI (Int.ofNat (Sl.n s13)))), (156, (zI (Int.ofNat k3))), (157, (fpV (k3 * 1) (Sl.cs s13))), (158, Sl.v 1 s21), (150, Sl.v 1 s22), (159, zB b2), (160, zB false)]) (hp 0 []) (eD ((oo (pu 15 [Sl.v 1 s16]) none fun v => some (v, (hp 0 [])))) (call_eq h19) (eD ((oo (pu 14 [Sl.v 1 s22, Sl.v 1 s21]) none fun v => some (v, (hp 0 [])))) (call_eq h20) (eD (some ((zB (nt b2)), (hp 0 []))) (show _ = some ((zB false), _) from (by rw [h21])) (by kernel_rfl)))) (eC 4 (keep (hp 0 []) (bb (an (Nat.blt 0 (Sl.n s13)) true) (some (fpV (0 * 1) (Sl.cs s13))) none)) (keep_bb h22) (eD (keep (hp 0 []) (nthL (Sl.cs s13) (0 * 1))) (keep_eq h23) (eD ((oo (pu 12 [Sl.v 1 s16, Sl.v 1 s23]) none fun v => some (v, (hp 0 [])))) (call_eq h24) (eD (some ((zB (ilt x2 (0 : Int))), (hp 0 []))) (show _ = some ((zB false), _) from (by rw [h25])) (eC 3 (some ((zB (ilt (0 : Int) (Int.ofNat k2))), (hp 0 []))) (show _ = some ((zB false), _) from (by rw [h26])) (eE))))))))) ?_
               exact ⟨(z29,z30,z31,s12,z32,s13,s14,z33,z34,s15,z35,(Int.ofNat k2),false),hm,(.k0 [] [] [3,4,5,13,15,17,96,97,98,132,133,134,180])⟩
        ·refine .ifF (ilt z36 z35) (by kernel_rfl) h7 ?_
         refine .exit ?_
         exact ⟨(z29,z30,z31,s12,z32,s13,s14,z33,z34),hm,(.k0 [] [] [3,4,5,13,15,17,96,97,98])⟩
     ·replace hm := bb_cases hm; rcases hm with ⟨h30, hm⟩ | ⟨h30, hm⟩
      ·refine .reg (eC 2 (some ((zB (ieq (Int.ofNat (Sl.n s5)) (0 : Int))), (hp 0 []))) (show _ = some ((zB true), _) from (by rw [h30])) (eE)) ?_
       exact ⟨(z5,z6,z7,s1,z8,s5,s2,z9,(Int.ofNat k1),true),hm,(.k0 [] [] [3,4,5,13,15,17,96,97,98,131])⟩
      ·replace hm := bb_inv hm; obtain ⟨h31, hm⟩ := hm
       replace hm:=bb_cases hm;rcases hm with ⟨h32,hm⟩ | ⟨h32,hm⟩
       ·refine .reg (eC 2 (some ((zB (ieq (Int.ofNat (Sl.n s5)) (0 : Int))), (hp 0 []))) (show _ = some ((zB false), _) from (by rw [h30])) (eC 5 (keep (hp 0 []) (bb (ieq (Int.ofNat (Sl.n s5)) (0 : Int)) none (some (zI (Int.tmod (wrapF .i64 (Int.add z6 (1 : Int))) (Int.ofNat (Sl.n s5))))))) (keep_nb h31) (eD (some ((zB (nt (ieq (Int.tmod (wrapF .i64 (Int.add z6 (1 : Int))) (Int.ofNat (Sl.n s5))) (0 : Int)))), (hp 0 []))) (show _ = some ((zB true), _) from (by rw [h32])) (eE)))) ?_
        exact ⟨(z5,z6,z7,s1,z8,s5,s2,z9,(Int.ofNat k1),true),hm,(.k0 [] [] [3,4,5,13,15,17,96,97,98,131])⟩
       ·replace hm := bb_cases hm; rcases hm with ⟨h33, hm⟩ | ⟨h33, hm⟩
        ·replace hm := oo_inv hm; obtain ⟨k4, h34, hm⟩ := hm
         replace hm:=bb_inv hm;obtain ⟨h35,hm⟩:=hm
         replace hm:=oo_inv hm;obtain ⟨v13,h36,hm⟩:=hm
         replace hm:=inv_toSl hm;obtain ⟨s25,rfl,hm⟩:=hm
         replace hm:=bb_inv hm;obtain ⟨h37,hm⟩:=hm
         replace hm:=oo_inv hm;obtain ⟨v14,h38,hm⟩:=hm
         replace hm:=inv_toSl hm;obtain ⟨s26,rfl,hm⟩:=hm
         replace hm:=bb_inv hm;obtain ⟨h39,hm⟩:=hm
         replace hm:=oo_inv hm;obtain ⟨v15,h40,hm⟩:=hm
         replace hm:=inv_toSl hm;obtain ⟨s27,rfl,hm⟩:=hm
         replace hm:=oo_inv hm;obtain ⟨v16,h41,hm⟩:=hm
         replace hm:=inv_toI hm;obtain ⟨x3,rfl,hm⟩:=hm
         refine .reg (eN 10 (Fr.puts (fr 193 [(3,zI z5),(4,zI z6),(5,zI z7),(13,Sl.v 1 s1),(15,zI z8),(16,(zI (Int.ofNat k1))),(17,Sl.v 1 s5),(96,Sl.v 1 s2),(97,zI z9),(98,(zI (Int.ofNat k1)))]) [(103,Sl.v 1 s5),(104,(zI (Int.ofNat (Sl.n s5)))),(105,zB false),(106,zB false),(107,zI z6),(108,(zI (wrapF .i64 (Int.add z6 (1:Int))))),(109,Sl.v 1 s5),(110,(zI (Int.ofNat (Sl.n s5)))),(111,(zI (Int.tmod (wrapF .i64 (Int.add z6 (1:Int))) (Int.ofNat (Sl.n s5))))),(112,zB false)]) (hp 0 []) (eC 2 (some ((zB (ieq (Int.ofNat (Sl.n s5)) (0:Int))),(hp 0 []))) (show _ = some ((zB false),_) from (by rw [h30])) (eC 5 (keep (hp 0 []) (bb (ieq (Int.ofNat (Sl.n s5)) (0:Int)) none (some (zI (Int.tmod (wrapF .i64 (Int.add z6 (1:Int))) (Int.ofNat (Sl.n s5))))))) (keep_nb h31) (eD (some ((zB (nt (ieq (Int.tmod (wrapF .i64 (Int.add z6 (1:Int))) (Int.ofNat (Sl.n s5))) (0:Int)))),(hp 0 []))) (show _ = some ((zB false),_) from (by rw [h32])) (by kernel_rfl)))) (eN 9 (Fr.puts (fr 193 [(3,zI z5),(4,zI z6),(5,zI z7),(13,Sl.v 1 s1),(15,zI z8),(16,(zI (Int.ofNat k1))),(17,Sl.v 1 s5),(96,Sl.v 1 s2),(97,zI z9),(98,(zI (Int.ofNat k1)))]) [(103,Sl.v 1 s5),(104,(zI (Int.ofNat (Sl.n s5)))),(105,zB false),(106,zB false),(107,zI z6),(108,(zI (wrapF .i64 (Int.add z6 (1:Int))))),(109,Sl.v 1 s5),(110,(zI (Int.ofNat (Sl.n s5)))),(111,(zI (Int.tmod (wrapF .i64 (Int.add z6 (1:Int))) (Int.ofNat (Sl.n s5))))),(112,zB false),(113,zB false),(114,zB false),(115,(zI (Int.ofNat k1))),(116,zB true),(117,zB true),(118,Sl.v 1 s1),(119,(zI (Int.ofNat k1))),(120,(zI (Int.ofNat k4))),(121,(fpV (k4 * 1) (Sl.cs s1)))]) (hp 0 []) (eC 3 (some ((zB (ilt (0:Int) (Int.ofNat k1))),(hp 0 []))) (show _ = some ((zB true),_) from (by rw [h33])) (eC 3 (some ((zI (wrapF .i64 (Int.sub (Int.ofNat k1) (1:Int)))),(hp 0 []))) (show _ = some ((zI (Int.ofNat k4)),_) from (by rw [toN_some h34])) (eD (keep (hp 0 []) (bb (an (Nat.blt k4 (Sl.n s1)) true) (some (fpV (k4 * 1) (Sl.cs s1))) none)) (keep_bb h35) (by kernel_rfl)))) (eN 3 (Fr.puts (fr 193 [(3,zI z5),(4,zI z6),(5,zI z7),(13,Sl.v 1 s1),(15,zI z8),(16,(zI (Int.ofNat k1))),(17,Sl.v 1 s5),(96,Sl.v 1 s2),(97,zI z9),(98,(zI (Int.ofNat k1)))]) [(103,Sl.v 1 s5),(104,(zI (Int.ofNat (Sl.n s5)))),(105,zB false),(106,zB false),(107,zI z6),(108,(zI (wrapF .i64 (Int.add z6 (1:Int))))),(109,Sl.v 1 s5),(110,(zI (Int.ofNat (Sl.n s5)))),(111,(zI (Int.tmod (wrapF .i64 (Int.add z6 (1:Int))) (Int.ofNat (Sl.n s5))))),(112,zB false),(113,zB false),(114,zB false),(115,(zI (Int.ofNat k1))),(116,zB true),(117,zB true),(118,Sl.v 1 s1),(119,(zI (Int.ofNat k1))),(120,(zI (Int.ofNat k4))),(121,(fpV (k4 * 1) (Sl.cs s1))),(122,Sl.v 1 s25),(123,(fpV (0 * 1) (Sl.cs s25))),(124,Sl.v 1 s26)]) (hp 0 []) (eD (keep (hp 0 []) (nthL (Sl.cs s1) (k4 * 1))) (keep_eq h36) (eD (keep (hp 0 []) (bb (an (Nat.blt 0 (Sl.n s25)) true) (some (fpV (0 * 1) (Sl.cs s25))) none)) (keep_bb h37) (eD (keep (hp 0 []) (nthL (Sl.cs s25) (0 * 1))) (keep_eq h38) (by kernel_rfl)))) (eC 1 (keep (hp 0 []) (bb (an (Nat.blt 0 (Sl.n s5)) true) (some (fpV (0 * 1) (Sl.cs s5))) none)) (keep_bb h39) (eD (keep (hp 0 []) (nthL (Sl.cs s5) (0 * 1))) (keep_eq h40) (eD ((oo (pu 12 [Sl.v 1 s26,Sl.v 1 s27]) none fun v=>some (v,(hp 0 [])))) (call_eq h41) (eE))))))) ?_
         exact ⟨(z5,z6,z7,s1,z8,s5,s2,z9,(Int.ofNat k1),(nt (ilt x3 (0:Int)))),hm,(.k0 [] [] [3,4,5,13,15,17,96,97,98,131])⟩
        ·refine .reg (eC 2 (some ((zB (ieq (Int.ofNat (Sl.n s5)) (0 : Int))), (hp 0 []))) (show _ = some ((zB false), _) from (by rw [h30])) (eC 5 (keep (hp 0 []) (bb (ieq (Int.ofNat (Sl.n s5)) (0 : Int)) none (some (zI (Int.tmod (wrapF .i64 (Int.add z6 (1 : Int))) (Int.ofNat (Sl.n s5))))))) (keep_nb h31) (eD (some ((zB (nt (ieq (Int.tmod (wrapF .i64 (Int.add z6 (1 : Int))) (Int.ofNat (Sl.n s5))) (0 : Int)))), (hp 0 []))) (show _ = some ((zB false), _) from (by rw [h32])) (eC 3 (some ((zB (ilt (0 : Int) (Int.ofNat k1))), (hp 0 []))) (show _ = some ((zB false), _) from (by rw [h33])) (eE))))) ?_
         exact ⟨(z5,z6,z7,s1,z8,s5,s2,z9,(Int.ofNat k1),false),hm,(.k0 [] [] [3,4,5,13,15,17,96,97,98,131])⟩
   ·refine .ifF (ilt z10 z9) (by kernel_rfl) h2 ?_
    refine .exit ?_
    exact ⟨(z7,z8),hm,(.k0 [] [] [5,15])⟩
theorem r3 {call:CallF} (pu:PureF) (n:Nat) (hcall:call = callP tabs isP pu (inl pu)) {args:LV} {v:Value} (hm:m3 pu n args = some v) (_:∀ x ∈ args,closed2 x = true):args.length≤193∧Run tt call 0 c3_107 (Fr.made 193 args) (pureHeap tabs) (Fin tt 0 [.tmp 2] v):=by
 subst hcall
 unfold m3 at hm
 replace hm:=ll_uncons hm;obtain ⟨a0,args_0,rfl,hm⟩:=hm
 replace hm:=ll_end hm;obtain ⟨rfl,hm⟩:=hm
 replace hm:=inv_toI hm;obtain ⟨x1,rfl,hm⟩:=hm
 unfold m3_ at hm
 refine ⟨by simp,?_⟩
 refine .same (F':=(fr 193 [(0,(zY x1))])) (H':=(hp 0 [])) (by kernel_rfl) (by kernel_rfl) ?_
 refine .then (.rK ?_)
 refine .ghs (fr 193 [(0,(zY x1))]) (hp 0 []) (.k0 [] [] [0]) ?_
 refine .then (.rK ?_)
 refine .ghs (fr 193 [(3,(zI (wrapF .i64 (Int.add (1:Int) (Int.tmod (wrapF .i64 x1) (12:Int))))))]) (hp 0 []) (.k0 [] [] [3]) ?_
 refine .then ?_
 replace hm:=oo_inv hm;obtain ⟨v7,h8,hm⟩:=hm
 replace hm:=inv_toI hm;obtain ⟨x9,rfl,hm⟩:=hm
 refine .reg (eC 1 ((oo (pu 7 [(zI (wrapF .i64 (Int.add (1:Int) (Int.tmod (wrapF .i64 x1) (12:Int)))))]) none fun v=>some (v,(hp 0 [])))) (call_eq h8) (eE)) ?_
 refine .ghs (fr 193 [(3,(zI (wrapF .i64 (Int.add (1:Int) (Int.tmod (wrapF .i64 x1) (12:Int)))))),(4,zI x9)]) (hp 0 []) (.k0 [] [] [3,4]) ?_
 refine .then (.rK ?_)
 refine .ghs (fr 193 [(3,(zI (wrapF .i64 (Int.add (1:Int) (Int.tmod (wrapF .i64 x1) (12:Int)))))),(4,zI x9),(5,(zI (0:Int)))]) (hp 0 []) (.k0 [] [] [3,4,5]) ?_
 refine .join (v:=v) (fun y:Int×Int×Int=>((fr 193 [(3,(zI y.1)),(4,(zI y.2.1)),(5,(zI y.2.2))]),(hp 0 []))) (fun y=>m3_0 pu n y.1 y.2.1 y.2.2) ?_ ?_
 ·rintro ⟨z0, z1, z2⟩ hm
  exact w3_0 pu n z0 z1 z2 hm
 ·refine .then ?_
  replace hm:=oo_inv hm;obtain ⟨v0,h0,hm⟩:=hm
  replace hm:=inv_toSl hm;obtain ⟨s0,rfl,hm⟩:=hm
  refine .reg (eC 1 ((oo (pu 8 [(zI (wrapF .i64 (Int.add (1:Int) (Int.tmod (wrapF .i64 x1) (12:Int)))))]) none fun v=>some (v,(hp 0 [])))) (call_eq h0) (eE)) ?_
  refine .ghs (fr 193 [(3,(zI (wrapF .i64 (Int.add (1:Int) (Int.tmod (wrapF .i64 x1) (12:Int)))))),(4,zI x9),(5,(zI (0:Int))),(27,Sl.v 1 s0),(28,(zI (Int.ofNat (Sl.n s0)))),(29,(zI (0:Int)))]) (hp 0 []) (.k0 [] [] [3,4,5,27,28,29]) ?_
  refine .block ?_
  refine .loopM (v:=v) (fun y:Int×Int×Int×Sl×Int×Int=>((fr 193 [(3,(zI y.1)),(4,(zI y.2.1)),(5,(zI y.2.2.1)),(27,(Sl.v 1 y.2.2.2.1)),(28,(zI y.2.2.2.2.1)),(29,(zI y.2.2.2.2.2))]),(hp 0 []))) (fun w y=>l3_9 pu n w y.1 y.2.1 y.2.2.1 y.2.2.2.1 y.2.2.2.2.1 y.2.2.2.2.2) n ⟨((wrapF .i64 (Int.add (1:Int) (Int.tmod (wrapF .i64 x1) (12:Int)))),x9,(0:Int),s0,(Int.ofNat (Sl.n s0)),(0:Int)),hm,(.k0 [] [] [3,4,5,27,28,29])⟩ (fun _=>rfl) ?_
  rintro w0 ⟨z3,z4,z5,s1,z6,z7⟩ hm
  replace hm:b3_9 pu n (l3_9 pu n w0) z3 z4 z5 s1 z6 z7 = some v:=hm
  unfold b3_9 at hm
  refine .then (.rK ?_)
  refine .ghs (fr 193 [(3,zI z3),(4,zI z4),(5,zI z5),(27,Sl.v 1 s1),(28,zI z6),(29,zI z7),(30,(zB (ilt z7 z6)))]) (hp 0 []) (.k0 [] [] [3,4,5,27,28,29,30]) ?_
  refine .then ?_
  replace hm:=bb_cases hm;rcases hm with ⟨h1,hm⟩ | ⟨h1,hm⟩
  ·refine .ifT (ilt z7 z6) (by kernel_rfl) h1 ?_
   refine .skip ?_
   refine .ghs (fr 193 [(3,zI z3),(4,zI z4),(5,zI z5),(27,Sl.v 1 s1),(28,zI z6),(29,zI z7)]) (hp 0 []) (.k0 [] [] [3,4,5,27,28,29]) ?_
   refine .join (v:=v) (fun y:Int×Int×Int×Sl×Int×Int=>((fr 193 [(3,(zI y.1)),(4,(zI y.2.1)),(5,(zI y.2.2.1)),(27,(Sl.v 1 y.2.2.2.1)),(28,(zI y.2.2.2.2.1)),(29,(zI y.2.2.2.2.2))]),(hp 0 []))) (fun y=>m3_10 pu n (l3_9 pu n w0) y.1 y.2.1 y.2.2.1 y.2.2.2.1 y.2.2.2.2.1 y.2.2.2.2.2) ?_ ?_
   ·rintro ⟨z8, z9, z10, s2, z11, z12⟩ hm
    unfold m3_10 at hm
    refine .rK ?_
    exact ⟨(z8,z9,z10,s2,z11,(wrapF .i64 (Int.add z12 (1:Int)))),hm,(.k0 [] [] [3,4,5,27,28,29])⟩
   ·refine .block ?_
    refine .then ?_
    replace hm:=oo_inv hm;obtain ⟨k1,h2,hm⟩:=hm
    obtain rfl:=toN_some h2
    replace hm:=bb_inv hm;obtain ⟨h3,hm⟩:=hm
    replace hm:=oo_inv hm;obtain ⟨v1,h4,hm⟩:=hm
    replace hm:=inv_toSl hm;obtain ⟨s3,rfl,hm⟩:=hm
    refine .reg (eD (keep (hp 0 []) (bb (an (Nat.blt k1 (Sl.n s1)) true) (some (fpV (k1 * 1) (Sl.cs s1))) none)) (keep_bb h3) (eD (keep (hp 0 []) (nthL (Sl.cs s1) (k1 * 1))) (keep_eq h4) (eE))) ?_
    refine .ghs (fr 193 [(3,zI z3),(4,zI z4),(5,zI z5),(7,Sl.v 1 s3),(27,Sl.v 1 s1),(28,zI z6),(29,(zI (Int.ofNat k1)))]) (hp 0 []) (.k0 [] [] [3,4,5,7,27,28,29]) ?_
    refine .then (.rK ?_)
    refine .ghs (fr 193 [(3,zI z3),(4,zI z4),(5,zI z5),(7,Sl.v 1 s3),(8,(zB (nt (ilt (wrapF .i64 (Int.add z4 (1:Int))) (Int.ofNat (Sl.n s3)))))),(27,Sl.v 1 s1),(28,zI z6),(29,(zI (Int.ofNat k1)))]) (hp 0 []) (.k0 [] [] [3,4,5,7,8,27,28,29]) ?_
    refine .join (v:=v) (fun y:Int×Int×Int×Sl×Bool×Sl×Int×Int=>((fr 193 [(3,(zI y.1)),(4,(zI y.2.1)),(5,(zI y.2.2.1)),(7,(Sl.v 1 y.2.2.2.1)),(8,(zB y.2.2.2.2.1)),(27,(Sl.v 1 y.2.2.2.2.2.1)),(28,(zI y.2.2.2.2.2.2.1)),(29,(zI y.2.2.2.2.2.2.2))]),(hp 0 []))) (fun y=>m3_11 pu n (l3_9 pu n w0) y.1 y.2.1 y.2.2.1 y.2.2.2.1 y.2.2.2.2.1 y.2.2.2.2.2.1 y.2.2.2.2.2.2.1 y.2.2.2.2.2.2.2) ?_ ?_
    ·rintro ⟨z13, z14, z15, s4, b0, s5, z16, z17⟩ hm
     unfold m3_11 at hm
     refine .then ?_
     replace hm:=oo_inv hm;obtain ⟨v2,h5,hm⟩:=hm
     replace hm:=inv_vTup hm;obtain ⟨l0,rfl,hm⟩:=hm
     replace hm:=ll_uncons hm;obtain ⟨v3,l6993_0,rfl,hm⟩:=hm
     replace hm:=ll_uncons hm;obtain ⟨v4,l6993_1,rfl,hm⟩:=hm
     replace hm:=ll_end hm;obtain ⟨rfl,hm⟩:=hm
     replace hm:=inv_vBool hm;obtain ⟨b1,rfl,hm⟩:=hm
     replace hm:=inv_toI hm;obtain ⟨x0,rfl,hm⟩:=hm
     refine .reg (eC 1 ((oo (pu 9 [Sl.v 1 s4]) none fun v=>some (v,(hp 0 [])))) (call_eq h5) (eE)) ?_
     refine .ghs (fr 193 [(3,zI z13),(4,zI z14),(5,zI z15),(7,Sl.v 1 s4),(8,zB b0),(11,zB b1),(12,zI x0),(27,Sl.v 1 s5),(28,zI z16),(29,zI z17)]) (hp 0 []) (.k0 [] [] [3,4,5,7,8,11,12,27,28,29]) ?_
     refine .then ?_
     refine .join (v:=v) (fun y:Int×Int×Int×Bool×Sl×Int×Int×Bool=>((fr 193 [(3,(zI y.1)),(4,(zI y.2.1)),(5,(zI y.2.2.1)),(11,(zB y.2.2.2.1)),(27,(Sl.v 1 y.2.2.2.2.1)),(28,(zI y.2.2.2.2.2.1)),(29,(zI y.2.2.2.2.2.2.1)),(84,(zB y.2.2.2.2.2.2.2))]),(hp 0 []))) (fun y=>m3_12 pu n (l3_9 pu n w0) y.1 y.2.1 y.2.2.1 y.2.2.2.1 y.2.2.2.2.1 y.2.2.2.2.2.1 y.2.2.2.2.2.2.1 y.2.2.2.2.2.2.2) ?_ ?_
     ·rintro ⟨z18, z19, z20, b2, s6, z21, z22, b4⟩ hm
      unfold m3_12 at hm
      replace hm:=bb_cases hm;rcases hm with ⟨h6,hm⟩ | ⟨h6,hm⟩
      ·refine .ifT b4 (by kernel_rfl) h6 ?_
       refine .then (.rK ?_)
       refine .ghs (fr 193 [(2,zB false)]) (hp 0 []) (.k0 [] [] [2]) ?_
       refine .ret ?_
       exact fin_ret (zB false) (by kernel_rfl) (by kernel_rfl) hm
      ·refine .ifF b4 (by kernel_rfl) h6 ?_
       refine .skip ?_
       refine .ghs (fr 193 [(3,zI z18),(4,zI z19),(5,zI z20),(11,zB b2),(27,Sl.v 1 s6),(28,zI z21),(29,zI z22)]) (hp 0 []) (.k0 [] [] [3,4,5,11,27,28,29]) ?_
       refine .then (.rK ?_)
       refine .ghs (fr 193 [(3,zI z18),(4,zI z19),(5,zI z20),(27,Sl.v 1 s6),(28,zI z21),(29,zI z22),(85,zB b2)]) (hp 0 []) (.k0 [] [] [3,4,5,27,28,29,85]) ?_
       replace hm:=bb_cases hm;rcases hm with ⟨h7,hm⟩ | ⟨h7,hm⟩
       ·refine .ifT b2 (by kernel_rfl) h7 ?_
        refine .rK ?_
        exact ⟨(z18,z19,(wrapF .i64 (Int.add z20 (1:Int))),s6,z21,z22),hm,(.k0 [] [] [3,4,5,27,28,29])⟩
       ·refine .ifF b2 (by kernel_rfl) h7 ?_
        refine .skip ?_
        exact ⟨(z18,z19,z20,s6,z21,z22),hm,(.k0 [] [] [3,4,5,27,28,29])⟩
     ·replace hm := bb_cases hm; rcases hm with ⟨h9, hm⟩ | ⟨h9, hm⟩
      ·refine .reg (eC 1 (some ((zB (nt (ieq x0 (0 : Int)))), (hp 0 []))) (show _ = some ((zB true), _) from (by rw [h9])) (eE)) ?_
       exact ⟨(z13,z14,z15,b1,s5,z16,z17,true),hm,(.k0 [] [] [3,4,5,11,27,28,29,84])⟩
      ·replace hm := bb_cases hm; rcases hm with ⟨h10, hm⟩ | ⟨h10, hm⟩
       ·refine .reg (eC 1 (some ((zB (nt (ieq x0 (0 : Int)))), (hp 0 []))) (show _ = some ((zB false), _) from (by rw [h9])) (eC 3 (some ((zB (bq false (bq b1 b0))), (hp 0 []))) (show _ = some ((zB true), _) from (by rw [h10])) (eE))) ?_
        exact ⟨(z13,z14,z15,b1,s5,z16,z17,true),hm,(.k0 [] [] [3,4,5,11,27,28,29,84])⟩
       ·replace hm := oo_inv hm; obtain ⟨v5, h11, hm⟩ := hm
        replace hm:=inv_vBool hm;obtain ⟨b5,rfl,hm⟩:=hm
        refine .reg (eC 1 (some ((zB (nt (ieq x0 (0:Int)))),(hp 0 []))) (show _ = some ((zB false),_) from (by rw [h9])) (eC 3 (some ((zB (bq false (bq b1 b0))),(hp 0 []))) (show _ = some ((zB false),_) from (by rw [h10])) (eC 4 ((oo (pu 10 [Sl.v 1 s4]) none fun v=>some (v,(hp 0 [])))) (call_eq h11) (eE)))) ?_
        exact ⟨(z13,z14,z15,b1,s5,z16,z17,(bq false (bq b0 b5))),hm,(.k0 [] [] [3,4,5,11,27,28,29,84])⟩
    ·refine .then (.rK ?_)
     refine .ghs (fr 193 [(3,zI z3),(4,zI z4),(5,zI z5),(7,Sl.v 1 s3),(8,(zB (nt (ilt (wrapF .i64 (Int.add z4 (1:Int))) (Int.ofNat (Sl.n s3)))))),(9,(zI (0:Int))),(27,Sl.v 1 s1),(28,zI z6),(29,(zI (Int.ofNat k1)))]) (hp 0 []) (.k0 [] [] [3,4,5,7,8,9,27,28,29]) ?_
     refine .block ?_
     refine .loopM (v:=v) (fun y:Int×Int×Int×Sl×Bool×Int×Sl×Int×Int=>((fr 193 [(3,(zI y.1)),(4,(zI y.2.1)),(5,(zI y.2.2.1)),(7,(Sl.v 1 y.2.2.2.1)),(8,(zB y.2.2.2.2.1)),(9,(zI y.2.2.2.2.2.1)),(27,(Sl.v 1 y.2.2.2.2.2.2.1)),(28,(zI y.2.2.2.2.2.2.2.1)),(29,(zI y.2.2.2.2.2.2.2.2))]),(hp 0 []))) (fun w y=>l3_13 pu n (l3_9 pu n w0) w y.1 y.2.1 y.2.2.1 y.2.2.2.1 y.2.2.2.2.1 y.2.2.2.2.2.1 y.2.2.2.2.2.2.1 y.2.2.2.2.2.2.2.1 y.2.2.2.2.2.2.2.2) n ⟨(z3,z4,z5,s3,(nt (ilt (wrapF .i64 (Int.add z4 (1:Int))) (Int.ofNat (Sl.n s3)))),(0:Int),s1,z6,(Int.ofNat k1)),hm,(.k0 [] [] [3,4,5,7,8,9,27,28,29])⟩ (fun _=>rfl) ?_
     rintro w1 ⟨z23,z24,z25,s7,b6,z26,s8,z27,z28⟩ hm
     replace hm:b3_13 pu n (l3_9 pu n w0) (l3_13 pu n (l3_9 pu n w0) w1) z23 z24 z25 s7 b6 z26 s8 z27 z28 = some v:=hm
     unfold b3_13 at hm
     refine .then ?_
     refine .join (v:=v) (fun y:Int×Int×Int×Sl×Bool×Int×Sl×Int×Int×Bool=>((fr 193 [(3,(zI y.1)),(4,(zI y.2.1)),(5,(zI y.2.2.1)),(7,(Sl.v 1 y.2.2.2.1)),(8,(zB y.2.2.2.2.1)),(9,(zI y.2.2.2.2.2.1)),(27,(Sl.v 1 y.2.2.2.2.2.2.1)),(28,(zI y.2.2.2.2.2.2.2.1)),(29,(zI y.2.2.2.2.2.2.2.2.1)),(43,(zB y.2.2.2.2.2.2.2.2.2))]),(hp 0 []))) (fun y=>m3_14 pu n (l3_9 pu n w0) (l3_13 pu n (l3_9 pu n w0) w1) y.1 y.2.1 y.2.2.1 y.2.2.2.1 y.2.2.2.2.1 y.2.2.2.2.2.1 y.2.2.2.2.2.2.1 y.2.2.2.2.2.2.2.1 y.2.2.2.2.2.2.2.2.1 y.2.2.2.2.2.2.2.2.2) ?_ ?_
     ·rintro ⟨z29, z30, z31, s9, b17, z32, s10, z33, z34, b18⟩ hm
      unfold m3_14 at hm
      replace hm:=bb_cases hm;rcases hm with ⟨h12,hm⟩ | ⟨h12,hm⟩
      ·refine .ifT b18 (by kernel_rfl) h12 ?_
       refine .skip ?_
       refine .ghs (fr 193 [(3,zI z29),(4,zI z30),(5,zI z31),(7,Sl.v 1 s9),(9,zI z32),(27,Sl.v 1 s10),(28,zI z33),(29,zI z34)]) (hp 0 []) (.k0 [] [] [3,4,5,7,9,27,28,29]) ?_
       refine .then ?_
       refine .block ?_
       refine .then (.rK ?_)
       refine .ghs (fr 193 [(3,zI z29),(4,zI z30),(5,zI z31),(7,Sl.v 1 s9),(9,zI z32),(10,(zI (0:Int))),(27,Sl.v 1 s10),(28,zI z33),(29,zI z34)]) (hp 0 []) (.k0 [] [] [3,4,5,7,9,10,27,28,29]) ?_
       refine .join (v:=v) (fun y:Int×Int×Int×Sl×Int×Int×Sl×Int×Int=>((fr 193 [(3,(zI y.1)),(4,(zI y.2.1)),(5,(zI y.2.2.1)),(7,(Sl.v 1 y.2.2.2.1)),(9,(zI y.2.2.2.2.1)),(10,(zI y.2.2.2.2.2.1)),(27,(Sl.v 1 y.2.2.2.2.2.2.1)),(28,(zI y.2.2.2.2.2.2.2.1)),(29,(zI y.2.2.2.2.2.2.2.2))]),(hp 0 []))) (fun y=>m3_15 pu n (l3_9 pu n w0) (l3_13 pu n (l3_9 pu n w0) w1) y.1 y.2.1 y.2.2.1 y.2.2.2.1 y.2.2.2.2.1 y.2.2.2.2.2.1 y.2.2.2.2.2.2.1 y.2.2.2.2.2.2.2.1 y.2.2.2.2.2.2.2.2) ?_ ?_
       ·rintro ⟨z35, z36, z37, s11, z38, z39, s12, z40, z41⟩ hm
        unfold m3_15 at hm
        replace hm:=bb_cases hm;rcases hm with ⟨h13,hm⟩ | ⟨h13,hm⟩
        ·refine .reg (eC 4 (some ((zB (ieq z39 (wrapF .i64 (Int.sub z36 z38)))), (hp 0 []))) (show _ = some ((zB true), _) from (by rw [h13])) (eE)) ?_
         refine .ghs (fr 193 [(3,zI z35),(4,zI z36),(5,zI z37),(7,Sl.v 1 s11),(8,zB true),(9,zI z38),(27,Sl.v 1 s12),(28,zI z40),(29,zI z41)]) (hp 0 []) (.k0 [] [] [3,4,5,7,8,9,27,28,29]) ?_
         refine .rK ?_
         exact ⟨(z35,z36,z37,s11,true,(wrapF .i64 (Int.add z38 (1:Int))),s12,z40,z41),hm,(.k0 [] [] [3,4,5,7,8,9,27,28,29])⟩
        ·refine .reg (eC 4 (some ((zB (ieq z39 (wrapF .i64 (Int.sub z36 z38)))), (hp 0 []))) (show _ = some ((zB false), _) from (by rw [h13])) (eE)) ?_
         refine .ghs (fr 193 [(3,zI z35),(4,zI z36),(5,zI z37),(7,Sl.v 1 s11),(8,(zB (ieq z39 (wrapF .i64 (Int.add (wrapF .i64 (Int.sub z36 z38)) (1:Int)))))),(9,zI z38),(27,Sl.v 1 s12),(28,zI z40),(29,zI z41),(60,zI z39),(61,zI z36),(62,zI z38),(63,(zI (wrapF .i64 (Int.sub z36 z38)))),(64,(zI (wrapF .i64 (Int.add (wrapF .i64 (Int.sub z36 z38)) (1:Int))))),(65,(zB (ieq z39 (wrapF .i64 (Int.add (wrapF .i64 (Int.sub z36 z38)) (1:Int))))))]) (hp 0 []) (.k0 [] [] [3,4,5,7,8,9,27,28,29,60,61,62,63,64,65]) ?_
         refine .rK ?_
         exact ⟨(z35,z36,z37,s11,(ieq z39 (wrapF .i64 (Int.add (wrapF .i64 (Int.sub z36 z38)) (1:Int)))),(wrapF .i64 (Int.add z38 (1:Int))),s12,z40,z41),hm,(.k0 [] [] [3,4,5,7,8,9,27,28,29])⟩
       ·refine .then (.rK ?_)
        refine .ghs (fr 193 [(3,zI z29),(4,zI z30),(5,zI z31),(7,Sl.v 1 s9),(9,zI z32),(10,(zI (0:Int))),(27,Sl.v 1 s10),(28,zI z33),(29,zI z34),(49,(zB (ilt z32 (Int.ofNat (Sl.n s9)))))]) (hp 0 []) (.k0 [] [] [3,4,5,7,9,10,27,28,29,49]) ?_
        replace hm:=bb_cases hm;rcases hm with ⟨h14,hm⟩ | ⟨h14,hm⟩
        ·refine .ifT (ilt z32 (Int.ofNat (Sl.n s9))) (by kernel_rfl) h14 ?_
         replace hm:=oo_inv hm;obtain ⟨k2,h15,hm⟩:=hm
         obtain rfl:=toN_some h15
         replace hm:=bb_inv hm;obtain ⟨h16,hm⟩:=hm
         replace hm:=oo_inv hm;obtain ⟨v6,h17,hm⟩:=hm
         replace hm:=inv_toI hm;obtain ⟨x2,rfl,hm⟩:=hm
         refine .reg (eC 2 (keep (hp 0 []) (bb (an (Nat.blt k2 (Sl.n s9)) true) (some (fpV (k2 * 1) (Sl.cs s9))) none)) (keep_bb h16) (eD (keep (hp 0 []) (nthL (Sl.cs s9) (k2 * 1))) (keep_eq h17) (eE))) ?_
         exact ⟨(z29,z30,z31,s9,(Int.ofNat k2),x2,s10,z33,z34),hm,(.k0 [] [] [3,4,5,7,9,10,27,28,29])⟩
        ·refine .ifF (ilt z32 (Int.ofNat (Sl.n s9))) (by kernel_rfl) h14 ?_
         refine .skip ?_
         exact ⟨(z29,z30,z31,s9,z32,(0:Int),s10,z33,z34),hm,(.k0 [] [] [3,4,5,7,9,10,27,28,29])⟩
      ·refine .ifF b18 (by kernel_rfl) h12 ?_
       refine .exit ?_
       exact ⟨(z29,z30,z31,s9,b17,s10,z33,z34),hm,(.k0 [] [] [3,4,5,7,8,27,28,29])⟩
     ·replace hm := bb_cases hm; rcases hm with ⟨h18, hm⟩ | ⟨h18, hm⟩
      ·refine .reg (eC 2 (some ((zB (nt (ilt z24 z26))), (hp 0 []))) (show _ = some ((zB true), _) from (by rw [h18])) (eE)) ?_
       exact ⟨(z23,z24,z25,s7,b6,z26,s8,z27,z28,b6),hm,(.k0 [] [] [3,4,5,7,8,9,27,28,29,43])⟩
      ·refine .reg (eC 2 (some ((zB (nt (ilt z24 z26))), (hp 0 []))) (show _ = some ((zB false), _) from (by rw [h18])) (eE)) ?_
       exact ⟨(z23,z24,z25,s7,b6,z26,s8,z27,z28,false),hm,(.k0 [] [] [3,4,5,7,8,9,27,28,29,43])⟩
  ·refine .ifF (ilt z7 z6) (by kernel_rfl) h1 ?_
   refine .exit ?_
   exact ⟨(z3,z4,z5),hm,(.k0 [] [] [3,4,5])⟩
end
end Go.HzBM
