/- Made from wip. -/
import Derived.Test.YtkhedoaiejjcfaaGreatSpSortKx
import Derived.Test.YtkhedoaiejjcfaaGreatHzSCode
import Derived.KernelRfl

set_option maxRecDepth 100000
namespace Go.Sp
theorem Weak.cap (id off sz ln m:Nat):Weak (.slice (some ⟨id,off,some sz⟩) ln (2 * m + 1)) (.slice (some ⟨id,off,some sz⟩) ln (2 * m)):=fun R u h=>by
 have e1:(2 * m + 1) / 2 = m:=by omega
 have e2:2 * m / 2 = m:=by omega
 cases h with
 | sl h h1 h2 h3 h4 =>
  rw [e1] at h1 h2
  exact .sl h (by rw [e2];exact h1) (by rw [e2];exact h2) (fun h=>by omega) h4
 | slE h=>exact .slE (by omega)
 | slN h=>exact .slN (by omega)
end Go.Sp
namespace Go.HzSM
open Go.Sp Go.HzS
noncomputable section
def orc68 (args:List Value):Option Value:=
 ll args none fun a r => ll r none fun b r => ll r (oo (toSl 1 a) none fun s => oo (toI .i64 b) none fun z => oo (toN z) none fun k => ll s.cs none fun x r => ll r (oo (toI .i64 x) none fun y => bb (an (Nat.beq s.n 1) (Nat.ble k 21))
  (some (Sl.v 1 ⟨k,0,zeroRow [.int .i64 y] k⟩)) none) fun _ _=>none) fun _ _=>none
def orc60 (args:List Value):Option Value:=
 ll args none fun a r=>ll r (oo (toSl 1 a) none fun s=>ll s.cs none fun x r=>ll r none fun y r=>ll r (oo (toSl 1 x) none fun u=>oo (toSl 1 y) none fun v=>oo (mapO (toSl 1) u.cs) none fun us=>oo (mapO (toSl 1) v.cs) none fun vs=>
  bb (an (Nat.beq s.n 2) (an (Nat.beq s.fl 0) (an (Nat.beq u.fl 0) (an (Nat.beq v.fl 0) (an (Nat.beq u.n (len us)) (an (Nat.beq v.n (len vs)) (an (Nat.ble 1 (len us)) (Nat.ble (len us + len vs) 7))))))))
   (some (Sl.v 1 ⟨len us + len vs,0,appL u.cs v.cs⟩)) none) fun _ _=>none) fun _ _=>none
def orc16 (_:List Value):Option Value:=none
def orc8 (_:List Value):Option Value:=none
def orc11 (_:List Value):Option Value:=none
def orc51 (_:List Value):Option Value:=none
def identF (args:List Value) (H:AHeap):Option (Value×AHeap):=ll args none fun a r=>ll r (AHeap.rec (motive:=fun _=>Option (Value×AHeap)) (fun k T z=>bb z (some (a,⟨k,T,true⟩)) none) H) fun _ _=>none
theorem identEv (a:Value) (k:Nat) (T:Tr AObj):evFn tt fns 2 42 [a] ⟨k,T,true⟩ = some (a,⟨k,T,true⟩):=by kernel_rfl
theorem ident42_ok {P : Program} (hT : TOk P tt) (hf : ∀ f r, fns f = some r → FnOk P [] f r) (hm : P.follows .mixedOrders = true) {args : List Value} {H H' : AHeap} {v : Value} (h : identF args H = some (v, H')) :
 (∀ (as:Array Value) (w:World),(callFunc 42 as).run P w = .ok (.enter 42 as) w) ∧
 ∀ R w args',Sim H R w→GlR [] R→VRL R args args'→Calls P 42 ⟨args'⟩ w fun e w'=>∃ u R',e = .returned u∧VR R' v u∧Post H R w H' R' w':=by
 obtain ⟨a,r,rfl,h⟩:=ll_uncons h
 obtain ⟨rfl,h⟩:=ll_end h
 obtain ⟨k,T,z⟩:=H
 obtain ⟨hz,h⟩:=bb_inv (show bb z _ none = some _ from h)
 subst hz
 injection h with h
 injection h with h1 h2
 subst h1;subst h2
 exact (evFn_ok hT hf hm 2) 42 _ _ _ _ (identEv a k T)
end
end Go.HzSM
set_option maxRecDepth 100000
set_option maxHeartbeats 20000000
set_option linter.unusedVariables false
namespace Go.HzSM
open Go.Sp Go.HzS
noncomputable section
def tabs:List (List Value):=[]
theorem trF {a b:Bool} (h:b = true) (e:a = b:=by kernel_rfl):a = true:=e.trans h
abbrev OV:=Option Value
abbrev LV:=List Value
def plist:List Nat:=[5,8,11,12,13,14,15,16,17,22,23,27,28,29,30,31,36,41,51,55,57,59,63,65]
def isP:FuncId→Bool:=fun g=>memN g plist
def inl (pu:PureF):CallF:=fun g args H=>bb (Nat.beq g 42) (identF args H) (bb (Nat.beq g 43) (sortF args H) (bb (Nat.beq g 56) (liveF tabs 1 (pu 56) args H) (bb (Nat.beq g 60) (giveF tabs 1 (pu 60) args H) (bb (Nat.beq g 68) (giveF tabs 1 (pu 68) args H) (bb (Nat.beq g 44) (objG tabs [[none]] 1 [.tmp 0 false] [false] (pu 10440) args H) (none))))))
def zA54:LV:=[(.int .i64 (0:Int)),(.int .i64 (0:Int)),(.int .i64 (0:Int)),(.int .i64 (0:Int)),(.int .i64 (0:Int)),(.int .i64 (0:Int)),(.int .i64 (0:Int)),(.int .i64 (0:Int)),(.int .i64 (0:Int)),(.int .i64 (0:Int)),(.int .i64 (0:Int)),(.int .i64 (0:Int)),(.int .i64 (0:Int)),(.int .i64 (0:Int)),(.int .i64 (0:Int)),(.int .i64 (0:Int)),(.int .i64 (0:Int)),(.int .i64 (0:Int)),(.int .i64 (0:Int)),(.int .i64 (0:Int)),(.int .i64 (0:Int)),(.int .i64 (0:Int))]
end
end Go.HzSM
set_option maxRecDepth 100000
set_option maxHeartbeats 20000000
set_option linter.unusedVariables false
namespace Go.HzSM
open Go.Sp Go.HzS
noncomputable section
def m5_3 (pu:PureF) (n:Nat) (b0:Bool):OV:=
 (some (.bool b0))
def m5_2 (pu:PureF) (n:Nat) (s0:Sl) (z0:Int):OV:=
 (bb (ieq z0 (Int.ofNat (Sl.n s0))) (oo (pu 16 []) none fun v0=>(oo (vBool v0) none fun b0=>(m5_3 pu n b0))) (m5_3 pu n false))
def b5_4 (pu:PureF) (n:Nat) (ih0:Sl→Int→Sl→Int→Int→OV) (s0:Sl) (z0:Int) (s1:Sl) (z1 z2:Int):OV:=
 (bb (ilt z2 z1) (oo (toN z2) none fun k1=>(bb (an (Nat.blt k1 (Sl.n s1)) true) (oo (nthL (Sl.cs s1) (k1 * 1)) none fun v0=>(oo (toSl 1 v0) none fun s2=>(bb (ieq (Int.ofNat (Sl.n s2)) (0:Int)) (some (.bool false)) (bb (an (Nat.blt 0 (Sl.n s2)) true) (oo (nthL (Sl.cs s2) (0 * 1)) none fun v1=>(oo (toSl 1 v1) none fun s3=>(oo (pu 23 [Sl.v 1 s3]) none fun v2=>(oo (vTup v2) none fun l0=>(ll l0 none fun v3 l0=>(ll l0 none fun v4 l0=>(ll l0 (oo (toI .i64 v3) none fun x0=>(oo (toI .i64 v4) none fun x1=>(bb (nt (ieq x1 (0:Int))) (some (.bool false)) (ih0 s0 (wrapF .i64 (Int.add z0 x0)) s1 z1 (wrapF .i64 (Int.add (Int.ofNat k1) (1:Int))))))) fun _ _=>none))))))) none)))) none)) (m5_2 pu n s0 z0))
def l5_4 (pu:PureF) (n w:Nat):Sl→Int→Sl→Int→Int→OV:=
 Nat.rec (motive:=fun _=>Sl→Int→Sl→Int→Int→OV) (fun _ _ _ _ _=>none) (fun _ ih0=>b5_4 pu n ih0) w
def m5_1 (pu:PureF) (n:Nat) (s0 s1:Sl) (b0:Bool):OV:=
 (bb b0 (some (.bool false)) (l5_4 pu n n s0 (0:Int) s1 (Int.ofNat (Sl.n s1)) (0:Int)))
def m5_0 (pu:PureF) (n:Nat) (s0:Sl) (z0 z1:Int) (s1:Sl):OV:=
 (oo (pu 23 [Sl.v 1 s0]) none fun v0=>(oo (vTup v0) none fun l0=>(ll l0 none fun v1 l0=>(ll l0 none fun v2 l0=>(ll l0 (oo (toI .i64 v1) none fun x0=>(oo (toI .i64 v2) none fun x1=>(oo (pu 11 [.int .i64 z0]) none fun v3=>(oo (vTup v3) none fun l1=>(ll l1 none fun v4 l1=>(ll l1 none fun v5 l1=>(ll l1 (oo (toSl 1 v4) none fun s2=>(oo (toI .i64 v5) none fun x2=>(bb (nt (ieq x1 (0:Int))) (m5_1 pu n s1 s2 true) (bb (nt (ieq x2 (0:Int))) (m5_1 pu n s1 s2 true) (m5_1 pu n s1 s2 (nt (ieq x0 z1))))))) fun _ _=>none))))))) fun _ _=>none)))))
def m5_6 (pu:PureF) (n:Nat) (ih0:Sl→Int→Int→Sl→Sl→Int→Int→OV) (s0:Sl) (z0 z1:Int) (s1 s2:Sl) (z2 z3:Int):OV:=
 (ih0 s0 z0 z1 s1 s2 z2 (wrapF .i64 (Int.add z3 (1:Int))))
def b5_5 (pu:PureF) (n:Nat) (ih0:Sl→Int→Int→Sl→Sl→Int→Int→OV) (s0:Sl) (z0 z1:Int) (s1 s2:Sl) (z2 z3:Int):OV:=
 (bb (ilt z3 z2) (oo (toN z3) none fun k1=>(bb (an (Nat.blt k1 (Sl.n s2)) true) (oo (nthL (Sl.cs s2) (k1 * 1)) none fun v0=>(oo (toSl 1 v0) none fun s3=>(oo (pu 22 [Sl.v 1 s3]) none fun v1=>(oo (toSl 1 v1) none fun s4=>(oo (pu 22 [Sl.v 1 s0]) none fun v2=>(oo (toSl 1 v2) none fun s5=>(oo (pu 14 [Sl.v 1 s4,Sl.v 1 s5]) none fun v3=>(oo (vBool v3) none fun b0=>(bb b0 (m5_6 pu n ih0 s0 z0 (wrapF .i64 (Int.add z1 (1:Int))) s1 s2 z2 (Int.ofNat k1)) (m5_6 pu n ih0 s0 z0 z1 s1 s2 z2 (Int.ofNat k1))))))))))) none)) (m5_0 pu n s0 z0 z1 s1))
def l5_5 (pu:PureF) (n w:Nat):Sl→Int→Int→Sl→Sl→Int→Int→OV:=
 Nat.rec (motive:=fun _=>Sl→Int→Int→Sl→Sl→Int→Int→OV) (fun _ _ _ _ _ _ _=>none) (fun _ ih0=>b5_5 pu n ih0) w
def m5_ (pu:PureF) (n:Nat) (s1:Sl):OV:=
 (oo (pu 17 [Sl.v 1 s1,(.int .i64 (12:Int))]) none fun v7=>(oo (toSl 1 v7) none fun s9=>(oo (pu 13 [Sl.v 1 s9]) none fun v15=>(oo (toI .i64 v15) none fun x17=>(oo (pu 8 [.int .i64 x17]) none fun v23=>(oo (toSl 1 v23) none fun s25=>(l5_5 pu n n s9 x17 (0:Int) s25 s25 (Int.ofNat (Sl.n s25)) (0:Int))))))))
def m5 (pu:PureF) (n:Nat) (args:LV):OV:=
 (ll args none fun a0 args=>(ll args (oo (toSl 1 a0) none fun s1=>(m5_ pu n s1)) fun _ _=>none))
theorem w5_3 (pu:PureF) (n:Nat) (b0:Bool) {v:Value} (hm:m5_3 pu n b0 = some v):Run tt (callP tabs isP pu (inl pu)) 0 .ret (fr 91 [(2,zB b0)]) (hp 0 []) (Fin tt 0 [.tmp 2] v):=by
 unfold m5_3 at hm
 refine .ret ?_
 exact fin_ret (zB b0) (by kernel_rfl) (by kernel_rfl) hm
theorem w5_2 (pu:PureF) (n:Nat) (s0:Sl) (z0:Int) {v:Value} (hm:m5_2 pu n s0 z0 = some v):Run tt (callP tabs isP pu (inl pu)) 0 c5_60 (fr 91 [(7,Sl.v 1 s0),(14,zI z0)]) (hp 0 []) (Fin tt 0 [.tmp 2] v):=by
 unfold m5_2 at hm
 refine .join (v:=v) (fun y:Bool=>((fr 91 [(2,zB y)]),(hp 0 []))) (fun y=>m5_3 pu n y) ?_ ?_
 ·rintro b0 hm
  exact w5_3 pu n b0 hm
 ·replace hm := bb_cases hm; rcases hm with ⟨h0, hm⟩ | ⟨h0, hm⟩
  ·replace hm := oo_inv hm; obtain ⟨v0, h1, hm⟩ := hm
   replace hm:=inv_vBool hm;obtain ⟨b1,rfl,hm⟩:=hm
   refine .reg (eC 3 (some ((zB (ieq z0 (Int.ofNat (Sl.n s0)))),(hp 0 []))) (show _ = some ((zB true),_) from (by rw [h0])) (eC 1 ((oo (pu 16 []) none fun v=>some (v,(hp 0 [])))) (call_eq h1) (eE))) ?_
   exact ⟨b1,hm,(.k0 [] [] [2])⟩
  ·refine .reg (eC 3 (some ((zB (ieq z0 (Int.ofNat (Sl.n s0)))), (hp 0 []))) (show _ = some ((zB false), _) from (by rw [h0])) (eE)) ?_
   exact ⟨false,hm,(.k0 [] [] [2])⟩
theorem w5_0 (pu:PureF) (n:Nat) (s0:Sl) (z0 z1:Int) (s1:Sl) {v:Value} (hm:m5_0 pu n s0 z0 z1 s1 = some v):Run tt (callP tabs isP pu (inl pu)) 0 c5_65 (fr 91 [(3,Sl.v 1 s0),(4,zI z0),(6,zI z1),(7,Sl.v 1 s1)]) (hp 0 []) (Fin tt 0 [.tmp 2] v):=by
 unfold m5_0 at hm
 refine .then ?_
 replace hm:=oo_inv hm;obtain ⟨v0,h0,hm⟩:=hm
 replace hm:=inv_vTup hm;obtain ⟨l0,rfl,hm⟩:=hm
 replace hm:=ll_uncons hm;obtain ⟨v1,l136_0,rfl,hm⟩:=hm
 replace hm:=ll_uncons hm;obtain ⟨v2,l136_1,rfl,hm⟩:=hm
 replace hm:=ll_end hm;obtain ⟨rfl,hm⟩:=hm
 replace hm:=inv_toI hm;obtain ⟨x0,rfl,hm⟩:=hm
 replace hm:=inv_toI hm;obtain ⟨x1,rfl,hm⟩:=hm
 refine .reg (eC 1 ((oo (pu 23 [Sl.v 1 s0]) none fun v=>some (v,(hp 0 [])))) (call_eq h0) (eE)) ?_
 refine .ghs (fr 91 [(4,zI z0),(6,zI z1),(7,Sl.v 1 s1),(10,zI x0),(11,zI x1)]) (hp 0 []) (.k0 [] [] [4,6,7,10,11]) ?_
 refine .then ?_
 replace hm:=oo_inv hm;obtain ⟨v3,h1,hm⟩:=hm
 replace hm:=inv_vTup hm;obtain ⟨l1,rfl,hm⟩:=hm
 replace hm:=ll_uncons hm;obtain ⟨v4,l156_0,rfl,hm⟩:=hm
 replace hm:=ll_uncons hm;obtain ⟨v5,l156_1,rfl,hm⟩:=hm
 replace hm:=ll_end hm;obtain ⟨rfl,hm⟩:=hm
 replace hm:=inv_toSl hm;obtain ⟨s2,rfl,hm⟩:=hm
 replace hm:=inv_toI hm;obtain ⟨x2,rfl,hm⟩:=hm
 refine .reg (eC 1 ((oo (pu 11 [zI z0]) none fun v=>some (v,(hp 0 [])))) (call_eq h1) (eE)) ?_
 refine .ghs (fr 91 [(6,zI z1),(7,Sl.v 1 s1),(10,zI x0),(11,zI x1),(12,Sl.v 1 s2),(13,zI x2)]) (hp 0 []) (.k0 [] [] [6,7,10,11,12,13]) ?_
 refine .then ?_
 refine .join (v:=v) (fun y:Sl×Sl×Bool=>((fr 91 [(7,(Sl.v 1 y.1)),(12,(Sl.v 1 y.2.1)),(61,(zB y.2.2))]),(hp 0 []))) (fun y=>m5_1 pu n y.1 y.2.1 y.2.2) ?_ ?_
 ·rintro ⟨s3, s4, b0⟩ hm
  unfold m5_1 at hm
  replace hm:=bb_cases hm;rcases hm with ⟨h2,hm⟩ | ⟨h2,hm⟩
  ·refine .ifT b0 (by kernel_rfl) h2 ?_
   refine .then (.rK ?_)
   refine .ghs (fr 91 [(2,zB false)]) (hp 0 []) (.k0 [] [] [2]) ?_
   refine .ret ?_
   exact fin_ret (zB false) (by kernel_rfl) (by kernel_rfl) hm
  ·refine .ifF b0 (by kernel_rfl) h2 ?_
   refine .skip ?_
   refine .ghs (fr 91 [(7,Sl.v 1 s3),(12,Sl.v 1 s4)]) (hp 0 []) (.k0 [] [] [7,12]) ?_
   refine .then (.rK ?_)
   refine .ghs (fr 91 [(7,Sl.v 1 s3),(12,Sl.v 1 s4),(14,(zI (0:Int)))]) (hp 0 []) (.k0 [] [] [7,12,14]) ?_
   refine .join (v:=v) (fun y:Sl×Int=>((fr 91 [(7,(Sl.v 1 y.1)),(14,(zI y.2))]),(hp 0 []))) (fun y=>m5_2 pu n y.1 y.2) ?_ ?_
   ·rintro ⟨s5, z2⟩ hm
    exact w5_2 pu n s5 z2 hm
   ·refine .then (.rK ?_)
    refine .ghs (fr 91 [(7,Sl.v 1 s3),(14,(zI (0:Int))),(62,Sl.v 1 s4),(63,(zI (Int.ofNat (Sl.n s4)))),(64,(zI (0:Int)))]) (hp 0 []) (.k0 [] [] [7,14,62,63,64]) ?_
    refine .block ?_
    refine .loopM (v:=v) (fun y:Sl×Int×Sl×Int×Int=>((fr 91 [(7,(Sl.v 1 y.1)),(14,(zI y.2.1)),(62,(Sl.v 1 y.2.2.1)),(63,(zI y.2.2.2.1)),(64,(zI y.2.2.2.2))]),(hp 0 []))) (fun w y=>l5_4 pu n w y.1 y.2.1 y.2.2.1 y.2.2.2.1 y.2.2.2.2) n ⟨(s3,(0:Int),s4,(Int.ofNat (Sl.n s4)),(0:Int)),hm,(.k0 [] [] [7,14,62,63,64])⟩ (fun _=>rfl) ?_
    rintro w0 ⟨s6,z3,s7,z4,z5⟩ hm
    replace hm:b5_4 pu n (l5_4 pu n w0) s6 z3 s7 z4 z5 = some v:=hm
    unfold b5_4 at hm
    refine .then (.rK ?_)
    refine .ghs (fr 91 [(7,Sl.v 1 s6),(14,zI z3),(62,Sl.v 1 s7),(63,zI z4),(64,zI z5),(65,(zB (ilt z5 z4)))]) (hp 0 []) (.k0 [] [] [7,14,62,63,64,65]) ?_
    refine .then ?_
    replace hm:=bb_cases hm;rcases hm with ⟨h3,hm⟩ | ⟨h3,hm⟩
    ·refine .ifT (ilt z5 z4) (by kernel_rfl) h3 ?_
     refine .skip ?_
     refine .ghs (fr 91 [(7,Sl.v 1 s6),(14,zI z3),(62,Sl.v 1 s7),(63,zI z4),(64,zI z5)]) (hp 0 []) (.k0 [] [] [7,14,62,63,64]) ?_
     refine .then ?_
     refine .block ?_
     refine .then ?_
     replace hm:=oo_inv hm;obtain ⟨k1,h4,hm⟩:=hm
     obtain rfl:=toN_some h4
     replace hm:=bb_inv hm;obtain ⟨h5,hm⟩:=hm
     replace hm:=oo_inv hm;obtain ⟨v6,h6,hm⟩:=hm
     replace hm:=inv_toSl hm;obtain ⟨s8,rfl,hm⟩:=hm
     refine .reg (eD (keep (hp 0 []) (bb (an (Nat.blt k1 (Sl.n s7)) true) (some (fpV (k1 * 1) (Sl.cs s7))) none)) (keep_bb h5) (eD (keep (hp 0 []) (nthL (Sl.cs s7) (k1 * 1))) (keep_eq h6) (eE))) ?_
     refine .ghs (fr 91 [(7,Sl.v 1 s6),(14,zI z3),(16,Sl.v 1 s8),(62,Sl.v 1 s7),(63,zI z4),(64,(zI (Int.ofNat k1)))]) (hp 0 []) (.k0 [] [] [7,14,16,62,63,64]) ?_
     refine .then ?_
     refine .then (.rK ?_)
     refine .ghs (fr 91 [(7,Sl.v 1 s6),(14,zI z3),(16,Sl.v 1 s8),(62,Sl.v 1 s7),(63,zI z4),(64,(zI (Int.ofNat k1))),(70,(zB (ieq (Int.ofNat (Sl.n s8)) (0:Int))))]) (hp 0 []) (.k0 [] [] [7,14,16,62,63,64,70]) ?_
     replace hm:=bb_cases hm;rcases hm with ⟨h7,hm⟩ | ⟨h7,hm⟩
     ·refine .ifT (ieq (Int.ofNat (Sl.n s8)) (0 : Int)) (by kernel_rfl) h7 ?_
      refine .then (.rK ?_)
      refine .ghs (fr 91 [(2,zB false)]) (hp 0 []) (.k0 [] [] [2]) ?_
      refine .ret ?_
      exact fin_ret (zB false) (by kernel_rfl) (by kernel_rfl) hm
     ·refine .ifF (ieq (Int.ofNat (Sl.n s8)) (0 : Int)) (by kernel_rfl) h7 ?_
      refine .skip ?_
      refine .ghs (fr 91 [(7,Sl.v 1 s6),(14,zI z3),(16,Sl.v 1 s8),(62,Sl.v 1 s7),(63,zI z4),(64,(zI (Int.ofNat k1)))]) (hp 0 []) (.k0 [] [] [7,14,16,62,63,64]) ?_
      refine .then ?_
      replace hm:=bb_inv hm;obtain ⟨h8,hm⟩:=hm
      replace hm:=oo_inv hm;obtain ⟨v7,h9,hm⟩:=hm
      replace hm:=inv_toSl hm;obtain ⟨s9,rfl,hm⟩:=hm
      replace hm:=oo_inv hm;obtain ⟨v8,h10,hm⟩:=hm
      replace hm:=inv_vTup hm;obtain ⟨l2,rfl,hm⟩:=hm
      replace hm:=ll_uncons hm;obtain ⟨v9,l290_0,rfl,hm⟩:=hm
      replace hm:=ll_uncons hm;obtain ⟨v10,l290_1,rfl,hm⟩:=hm
      replace hm:=ll_end hm;obtain ⟨rfl,hm⟩:=hm
      replace hm:=inv_toI hm;obtain ⟨x3,rfl,hm⟩:=hm
      replace hm:=inv_toI hm;obtain ⟨x4,rfl,hm⟩:=hm
      refine .reg (eC 1 (keep (hp 0 []) (bb (an (Nat.blt 0 (Sl.n s8)) true) (some (fpV (0 * 1) (Sl.cs s8))) none)) (keep_bb h8) (eD (keep (hp 0 []) (nthL (Sl.cs s8) (0 * 1))) (keep_eq h9) (eD ((oo (pu 23 [Sl.v 1 s9]) none fun v=>some (v,(hp 0 [])))) (call_eq h10) (eE)))) ?_
      refine .ghs (fr 91 [(7,Sl.v 1 s6),(14,zI z3),(17,zI x3),(18,zI x4),(62,Sl.v 1 s7),(63,zI z4),(64,(zI (Int.ofNat k1)))]) (hp 0 []) (.k0 [] [] [7,14,17,18,62,63,64]) ?_
      refine .then ?_
      refine .then (.rK ?_)
      refine .ghs (fr 91 [(7,Sl.v 1 s6),(14,zI z3),(17,zI x3),(62,Sl.v 1 s7),(63,zI z4),(64,(zI (Int.ofNat k1))),(79,(zB (nt (ieq x4 (0:Int)))))]) (hp 0 []) (.k0 [] [] [7,14,17,62,63,64,79]) ?_
      replace hm:=bb_cases hm;rcases hm with ⟨h11,hm⟩ | ⟨h11,hm⟩
      ·refine .ifT (nt (ieq x4 (0 : Int))) (by kernel_rfl) h11 ?_
       refine .then (.rK ?_)
       refine .ghs (fr 91 [(2,zB false)]) (hp 0 []) (.k0 [] [] [2]) ?_
       refine .ret ?_
       exact fin_ret (zB false) (by kernel_rfl) (by kernel_rfl) hm
      ·refine .ifF (nt (ieq x4 (0 : Int))) (by kernel_rfl) h11 ?_
       refine .skip ?_
       refine .ghs (fr 91 [(7,Sl.v 1 s6),(14,zI z3),(17,zI x3),(62,Sl.v 1 s7),(63,zI z4),(64,(zI (Int.ofNat k1)))]) (hp 0 []) (.k0 [] [] [7,14,17,62,63,64]) ?_
       refine .rK ?_
       refine .ghs (fr 91 [(7,Sl.v 1 s6),(14,(zI (wrapF .i64 (Int.add z3 x3)))),(62,Sl.v 1 s7),(63,zI z4),(64,(zI (Int.ofNat k1)))]) (hp 0 []) (.k0 [] [] [7,14,62,63,64]) ?_
       refine .rK ?_
       exact ⟨(s6,(wrapF .i64 (Int.add z3 x3)),s7,z4,(wrapF .i64 (Int.add (Int.ofNat k1) (1:Int)))),hm,(.k0 [] [] [7,14,62,63,64])⟩
    ·refine .ifF (ilt z5 z4) (by kernel_rfl) h3 ?_
     refine .exit ?_
     exact ⟨(s6,z3),hm,(.k0 [] [] [7,14])⟩
 ·replace hm := bb_cases hm; rcases hm with ⟨h12, hm⟩ | ⟨h12, hm⟩
  ·refine .reg (eC 1 (some ((zB (nt (ieq x1 (0 : Int)))), (hp 0 []))) (show _ = some ((zB true), _) from (by rw [h12])) (eE)) ?_
   exact ⟨(s1,s2,true),hm,(.k0 [] [] [7,12,61])⟩
  ·replace hm := bb_cases hm; rcases hm with ⟨h13, hm⟩ | ⟨h13, hm⟩
   ·refine .reg (eC 1 (some ((zB (nt (ieq x1 (0 : Int)))), (hp 0 []))) (show _ = some ((zB false), _) from (by rw [h12])) (eC 2 (some ((zB (nt (ieq x2 (0 : Int)))), (hp 0 []))) (show _ = some ((zB true), _) from (by rw [h13])) (eE))) ?_
    exact ⟨(s1,s2,true),hm,(.k0 [] [] [7,12,61])⟩
   ·refine .reg (eC 1 (some ((zB (nt (ieq x1 (0 : Int)))), (hp 0 []))) (show _ = some ((zB false), _) from (by rw [h12])) (eC 2 (some ((zB (nt (ieq x2 (0 : Int)))), (hp 0 []))) (show _ = some ((zB false), _) from (by rw [h13])) (eE))) ?_
    exact ⟨(s1,s2,(nt (ieq x0 z1))),hm,(.k0 [] [] [7,12,61])⟩
theorem r5 {call:CallF} (pu:PureF) (n:Nat) (hcall:call = callP tabs isP pu (inl pu)) {args:LV} {v:Value} (hm:m5 pu n args = some v) (_:∀ x ∈ args,closed2 x = true):args.length≤91∧Run tt call 0 c5_72 (Fr.made 91 args) (pureHeap tabs) (Fin tt 0 [.tmp 2] v):=by
 subst hcall
 unfold m5 at hm
 replace hm:=ll_uncons hm;obtain ⟨a0,args_0,rfl,hm⟩:=hm
 replace hm:=ll_end hm;obtain ⟨rfl,hm⟩:=hm
 replace hm:=inv_toSl hm;obtain ⟨s1,rfl,hm⟩:=hm
 unfold m5_ at hm
 refine ⟨by simp,?_⟩
 refine .same (F':=(fr 91 [(0,Sl.v 1 s1)])) (H':=(hp 0 [])) (by kernel_rfl) (by kernel_rfl) ?_
 refine .then (.rK ?_)
 refine .ghs (fr 91 [(0,Sl.v 1 s1)]) (hp 0 []) (.k0 [] [] [0]) ?_
 refine .then ?_
 replace hm:=oo_inv hm;obtain ⟨v7,h8,hm⟩:=hm
 replace hm:=inv_toSl hm;obtain ⟨s9,rfl,hm⟩:=hm
 refine .reg (eC 1 ((oo (pu 17 [Sl.v 1 s1,(zI (12:Int))]) none fun v=>some (v,(hp 0 [])))) (call_eq h8) (eE)) ?_
 refine .ghs (fr 91 [(3,Sl.v 1 s9)]) (hp 0 []) (.k0 [] [] [3]) ?_
 refine .then ?_
 replace hm:=oo_inv hm;obtain ⟨v15,h16,hm⟩:=hm
 replace hm:=inv_toI hm;obtain ⟨x17,rfl,hm⟩:=hm
 refine .reg (eC 1 ((oo (pu 13 [Sl.v 1 s9]) none fun v=>some (v,(hp 0 [])))) (call_eq h16) (eE)) ?_
 refine .ghs (fr 91 [(3,Sl.v 1 s9),(4,zI x17)]) (hp 0 []) (.k0 [] [] [3,4]) ?_
 refine .then (.rK ?_)
 refine .ghs (fr 91 [(3,Sl.v 1 s9),(4,zI x17),(5,(.func (.func 22) ⟨[]⟩ ⟨[]⟩))]) (hp 0 []) (.k0 [] [] [3,4,5]) ?_
 refine .then (.rK ?_)
 refine .ghs (fr 91 [(3,Sl.v 1 s9),(4,zI x17),(5,(.func (.func 22) ⟨[]⟩ ⟨[]⟩)),(6,(zI (0:Int)))]) (hp 0 []) (.k0 [] [] [3,4,5,6]) ?_
 refine .then ?_
 replace hm:=oo_inv hm;obtain ⟨v23,h24,hm⟩:=hm
 replace hm:=inv_toSl hm;obtain ⟨s25,rfl,hm⟩:=hm
 refine .reg (eC 1 ((oo (pu 8 [zI x17]) none fun v=>some (v,(hp 0 [])))) (call_eq h24) (eE)) ?_
 refine .ghs (fr 91 [(3,Sl.v 1 s9),(4,zI x17),(5,(.func (.func 22) ⟨[]⟩ ⟨[]⟩)),(6,(zI (0:Int))),(7,Sl.v 1 s25)]) (hp 0 []) (.k0 [] [] [3,4,5,6,7]) ?_
 refine .join (v:=v) (fun y:Sl×Int×Int×Sl=>((fr 91 [(3,(Sl.v 1 y.1)),(4,(zI y.2.1)),(6,(zI y.2.2.1)),(7,(Sl.v 1 y.2.2.2))]),(hp 0 []))) (fun y=>m5_0 pu n y.1 y.2.1 y.2.2.1 y.2.2.2) ?_ ?_
 ·rintro ⟨s0, z0, z1, s2⟩ hm
  exact w5_0 pu n s0 z0 z1 s2 hm
 ·refine .then (.rK ?_)
  refine .ghs (fr 91 [(3,Sl.v 1 s9),(4,zI x17),(5,(.func (.func 22) ⟨[]⟩ ⟨[]⟩)),(6,(zI (0:Int))),(7,Sl.v 1 s25),(25,Sl.v 1 s25),(26,(zI (Int.ofNat (Sl.n s25)))),(27,(zI (0:Int)))]) (hp 0 []) (.k0 [] [] [3,4,5,6,7,25,26,27]) ?_
  refine .block ?_
  refine .loopM (v:=v) (fun y:Sl×Int×Int×Sl×Sl×Int×Int=>((fr 91 [(3,(Sl.v 1 y.1)),(4,(zI y.2.1)),(5,(.func (.func 22) ⟨[]⟩ ⟨[]⟩)),(6,(zI y.2.2.1)),(7,(Sl.v 1 y.2.2.2.1)),(25,(Sl.v 1 y.2.2.2.2.1)),(26,(zI y.2.2.2.2.2.1)),(27,(zI y.2.2.2.2.2.2))]),(hp 0 []))) (fun w y=>l5_5 pu n w y.1 y.2.1 y.2.2.1 y.2.2.2.1 y.2.2.2.2.1 y.2.2.2.2.2.1 y.2.2.2.2.2.2) n ⟨(s9,x17,(0:Int),s25,s25,(Int.ofNat (Sl.n s25)),(0:Int)),hm,(.k0 [] [] [3,4,5,6,7,25,26,27])⟩ (fun _=>rfl) ?_
  rintro w0 ⟨s3,z2,z3,s4,s5,z4,z5⟩ hm
  replace hm:b5_5 pu n (l5_5 pu n w0) s3 z2 z3 s4 s5 z4 z5 = some v:=hm
  unfold b5_5 at hm
  refine .then (.rK ?_)
  refine .ghs (fr 91 [(3,Sl.v 1 s3),(4,zI z2),(5,(.func (.func 22) ⟨[]⟩ ⟨[]⟩)),(6,zI z3),(7,Sl.v 1 s4),(25,Sl.v 1 s5),(26,zI z4),(27,zI z5),(28,(zB (ilt z5 z4)))]) (hp 0 []) (.k0 [] [] [3,4,5,6,7,25,26,27,28]) ?_
  refine .then ?_
  replace hm:=bb_cases hm;rcases hm with ⟨h0,hm⟩ | ⟨h0,hm⟩
  ·refine .ifT (ilt z5 z4) (by kernel_rfl) h0 ?_
   refine .skip ?_
   refine .ghs (fr 91 [(3,Sl.v 1 s3),(4,zI z2),(5,(.func (.func 22) ⟨[]⟩ ⟨[]⟩)),(6,zI z3),(7,Sl.v 1 s4),(25,Sl.v 1 s5),(26,zI z4),(27,zI z5)]) (hp 0 []) (.k0 [] [] [3,4,5,6,7,25,26,27]) ?_
   refine .join (v:=v) (fun y:Sl×Int×Int×Sl×Sl×Int×Int=>((fr 91 [(3,(Sl.v 1 y.1)),(4,(zI y.2.1)),(5,(.func (.func 22) ⟨[]⟩ ⟨[]⟩)),(6,(zI y.2.2.1)),(7,(Sl.v 1 y.2.2.2.1)),(25,(Sl.v 1 y.2.2.2.2.1)),(26,(zI y.2.2.2.2.2.1)),(27,(zI y.2.2.2.2.2.2))]),(hp 0 []))) (fun y=>m5_6 pu n (l5_5 pu n w0) y.1 y.2.1 y.2.2.1 y.2.2.2.1 y.2.2.2.2.1 y.2.2.2.2.2.1 y.2.2.2.2.2.2) ?_ ?_
   ·rintro ⟨s6, z6, z7, s7, s8, z8, z9⟩ hm
    unfold m5_6 at hm
    refine .rK ?_
    exact ⟨(s6,z6,z7,s7,s8,z8,(wrapF .i64 (Int.add z9 (1:Int)))),hm,(.k0 [] [] [3,4,5,6,7,25,26,27])⟩
   ·refine .block ?_
    refine .then ?_
    replace hm:=oo_inv hm;obtain ⟨k1,h1,hm⟩:=hm
    obtain rfl:=toN_some h1
    replace hm:=bb_inv hm;obtain ⟨h2,hm⟩:=hm
    replace hm:=oo_inv hm;obtain ⟨v0,h3,hm⟩:=hm
    replace hm:=inv_toSl hm;obtain ⟨s10,rfl,hm⟩:=hm
    refine .reg (eD (keep (hp 0 []) (bb (an (Nat.blt k1 (Sl.n s5)) true) (some (fpV (k1 * 1) (Sl.cs s5))) none)) (keep_bb h2) (eD (keep (hp 0 []) (nthL (Sl.cs s5) (k1 * 1))) (keep_eq h3) (eE))) ?_
    refine .ghs (fr 91 [(3,Sl.v 1 s3),(4,zI z2),(5,(.func (.func 22) ⟨[]⟩ ⟨[]⟩)),(6,zI z3),(7,Sl.v 1 s4),(9,Sl.v 1 s10),(25,Sl.v 1 s5),(26,zI z4),(27,(zI (Int.ofNat k1)))]) (hp 0 []) (.k0 [] [] [3,4,5,6,7,9,25,26,27]) ?_
    refine .then ?_
    replace hm:=oo_inv hm;obtain ⟨v1,h4,hm⟩:=hm
    replace hm:=inv_toSl hm;obtain ⟨s11,rfl,hm⟩:=hm
    replace hm:=oo_inv hm;obtain ⟨v2,h5,hm⟩:=hm
    replace hm:=inv_toSl hm;obtain ⟨s12,rfl,hm⟩:=hm
    replace hm:=oo_inv hm;obtain ⟨v3,h6,hm⟩:=hm
    replace hm:=inv_vBool hm;obtain ⟨b0,rfl,hm⟩:=hm
    refine .reg (eC 2 ((oo (pu 22 [Sl.v 1 s10]) none fun v=>some (v,(hp 0 [])))) (call_eq h4) (eC 2 ((oo (pu 22 [Sl.v 1 s3]) none fun v=>some (v,(hp 0 [])))) (call_eq h5) (eD ((oo (pu 14 [Sl.v 1 s11,Sl.v 1 s12]) none fun v=>some (v,(hp 0 [])))) (call_eq h6) (eE)))) ?_
    refine .ghs (fr 91 [(3,Sl.v 1 s3),(4,zI z2),(5,(.func (.func 22) ⟨[]⟩ ⟨[]⟩)),(6,zI z3),(7,Sl.v 1 s4),(25,Sl.v 1 s5),(26,zI z4),(27,(zI (Int.ofNat k1))),(37,zB b0)]) (hp 0 []) (.k0 [] [] [3,4,5,6,7,25,26,27,37]) ?_
    replace hm:=bb_cases hm;rcases hm with ⟨h7,hm⟩ | ⟨h7,hm⟩
    ·refine .ifT b0 (by kernel_rfl) h7 ?_
     refine .rK ?_
     exact ⟨(s3,z2,(wrapF .i64 (Int.add z3 (1:Int))),s4,s5,z4,(Int.ofNat k1)),hm,(.k0 [] [] [3,4,5,6,7,25,26,27])⟩
    ·refine .ifF b0 (by kernel_rfl) h7 ?_
     refine .skip ?_
     exact ⟨(s3,z2,z3,s4,s5,z4,(Int.ofNat k1)),hm,(.k0 [] [] [3,4,5,6,7,25,26,27])⟩
  ·refine .ifF (ilt z5 z4) (by kernel_rfl) h0 ?_
   refine .exit ?_
   exact ⟨(s3,z2,z3,s4),hm,(.k0 [] [] [3,4,6,7])⟩
def m13_0 (pu:PureF) (n:Nat) (z0:Int):OV:=
 (some (.int .i64 z0))
def b13_1 (pu:PureF) (n:Nat) (ih0:Int→Sl→Int→Int→OV) (z0:Int) (s0:Sl) (z1 z2:Int):OV:=
 (bb (ilt z2 z1) (oo (toN z2) none fun k1=>(bb (an (Nat.blt k1 (Sl.n s0)) true) (oo (nthL (Sl.cs s0) (k1 * 1)) none fun v0=>(oo (toI .i64 v0) none fun x0=>(ih0 (wrapF .i64 (Int.add z0 x0)) s0 z1 (wrapF .i64 (Int.add (Int.ofNat k1) (1:Int)))))) none)) (m13_0 pu n z0))
def l13_1 (pu:PureF) (n w:Nat):Int→Sl→Int→Int→OV:=
 Nat.rec (motive:=fun _=>Int→Sl→Int→Int→OV) (fun _ _ _ _=>none) (fun _ ih0=>b13_1 pu n ih0) w
def m13_ (pu:PureF) (n:Nat) (s0:Sl):OV:=
 (l13_1 pu n n (0:Int) s0 (Int.ofNat (Sl.n s0)) (0:Int))
def m13 (pu:PureF) (n:Nat) (args:LV):OV:=
 (ll args none fun a0 args=>(ll args (oo (toSl 1 a0) none fun s0=>(m13_ pu n s0)) fun _ _=>none))
theorem w13_0 (pu:PureF) (n:Nat) (z0:Int) {v:Value} (hm:m13_0 pu n z0 = some v):Run tt (callP tabs isP pu (inl pu)) 0 c13_17 (fr 17 [(3,zI z0)]) (hp 0 []) (Fin tt 0 [.tmp 2] v):=by
 unfold m13_0 at hm
 refine .then (.rK ?_)
 refine .ghs (fr 17 [(2,zI z0)]) (hp 0 []) (.k0 [] [] [2]) ?_
 refine .ret ?_
 exact fin_ret (zI z0) (by kernel_rfl) (by kernel_rfl) hm
theorem r13 {call:CallF} (pu:PureF) (n:Nat) (hcall:call = callP tabs isP pu (inl pu)) {args:LV} {v:Value} (hm:m13 pu n args = some v) (_:∀ x ∈ args,closed2 x = true):args.length≤17∧Run tt call 0 c13_20 (Fr.made 17 args) (pureHeap tabs) (Fin tt 0 [.tmp 2] v):=by
 subst hcall
 unfold m13 at hm
 replace hm:=ll_uncons hm;obtain ⟨a0,args_0,rfl,hm⟩:=hm
 replace hm:=ll_end hm;obtain ⟨rfl,hm⟩:=hm
 replace hm:=inv_toSl hm;obtain ⟨s0,rfl,hm⟩:=hm
 unfold m13_ at hm
 refine ⟨by simp,?_⟩
 refine .same (F':=(fr 17 [(0,Sl.v 1 s0)])) (H':=(hp 0 [])) (by kernel_rfl) (by kernel_rfl) ?_
 refine .then (.rK ?_)
 refine .ghs (fr 17 [(0,Sl.v 1 s0)]) (hp 0 []) (.k0 [] [] [0]) ?_
 refine .then (.rK ?_)
 refine .ghs (fr 17 [(0,Sl.v 1 s0),(3,(zI (0:Int)))]) (hp 0 []) (.k0 [] [] [0,3]) ?_
 refine .join (v:=v) (fun y:Int=>((fr 17 [(3,zI y)]),(hp 0 []))) (fun y=>m13_0 pu n y) ?_ ?_
 ·rintro z0 hm
  exact w13_0 pu n z0 hm
 ·refine .then (.rK ?_)
  refine .ghs (fr 17 [(3,(zI (0:Int))),(6,Sl.v 1 s0),(7,(zI (Int.ofNat (Sl.n s0)))),(8,(zI (0:Int)))]) (hp 0 []) (.k0 [] [] [3,6,7,8]) ?_
  refine .block ?_
  refine .loopM (v:=v) (fun y:Int×Sl×Int×Int=>((fr 17 [(3,(zI y.1)),(6,(Sl.v 1 y.2.1)),(7,(zI y.2.2.1)),(8,(zI y.2.2.2))]),(hp 0 []))) (fun w y=>l13_1 pu n w y.1 y.2.1 y.2.2.1 y.2.2.2) n ⟨((0:Int),s0,(Int.ofNat (Sl.n s0)),(0:Int)),hm,(.k0 [] [] [3,6,7,8])⟩ (fun _=>rfl) ?_
  rintro w0 ⟨z1,s1,z2,z3⟩ hm
  replace hm:b13_1 pu n (l13_1 pu n w0) z1 s1 z2 z3 = some v:=hm
  unfold b13_1 at hm
  refine .then (.rK ?_)
  refine .ghs (fr 17 [(3,zI z1),(6,Sl.v 1 s1),(7,zI z2),(8,zI z3),(9,(zB (ilt z3 z2)))]) (hp 0 []) (.k0 [] [] [3,6,7,8,9]) ?_
  refine .then ?_
  replace hm:=bb_cases hm;rcases hm with ⟨h0,hm⟩ | ⟨h0,hm⟩
  ·refine .ifT (ilt z3 z2) (by kernel_rfl) h0 ?_
   refine .skip ?_
   refine .ghs (fr 17 [(3,zI z1),(6,Sl.v 1 s1),(7,zI z2),(8,zI z3)]) (hp 0 []) (.k0 [] [] [3,6,7,8]) ?_
   refine .then ?_
   refine .block ?_
   refine .then ?_
   replace hm:=oo_inv hm;obtain ⟨k1,h1,hm⟩:=hm
   obtain rfl:=toN_some h1
   replace hm:=bb_inv hm;obtain ⟨h2,hm⟩:=hm
   replace hm:=oo_inv hm;obtain ⟨v0,h3,hm⟩:=hm
   replace hm:=inv_toI hm;obtain ⟨x0,rfl,hm⟩:=hm
   refine .reg (eD (keep (hp 0 []) (bb (an (Nat.blt k1 (Sl.n s1)) true) (some (fpV (k1 * 1) (Sl.cs s1))) none)) (keep_bb h2) (eD (keep (hp 0 []) (nthL (Sl.cs s1) (k1 * 1))) (keep_eq h3) (eE))) ?_
   refine .ghs (fr 17 [(3,zI z1),(5,zI x0),(6,Sl.v 1 s1),(7,zI z2),(8,(zI (Int.ofNat k1)))]) (hp 0 []) (.k0 [] [] [3,5,6,7,8]) ?_
   refine .rK ?_
   refine .ghs (fr 17 [(3,(zI (wrapF .i64 (Int.add z1 x0)))),(6,Sl.v 1 s1),(7,zI z2),(8,(zI (Int.ofNat k1)))]) (hp 0 []) (.k0 [] [] [3,6,7,8]) ?_
   refine .rK ?_
   exact ⟨((wrapF .i64 (Int.add z1 x0)),s1,z2,(wrapF .i64 (Int.add (Int.ofNat k1) (1:Int)))),hm,(.k0 [] [] [3,6,7,8])⟩
  ·refine .ifF (ilt z3 z2) (by kernel_rfl) h0 ?_
   refine .exit ?_
   exact ⟨z1,hm,(.k0 [] [] [3])⟩
def m14_0 (pu:PureF) (n:Nat):OV:=
 (some (.bool true))
def b14_1 (pu:PureF) (n:Nat) (ih0:Sl→Sl→Int→OV) (s0 s1:Sl) (z0:Int):OV:=
 (bb (ilt z0 (Int.ofNat (Sl.n s0))) (oo (toN z0) none fun k1=>(bb (an (Nat.blt k1 (Sl.n s0)) true) (oo (nthL (Sl.cs s0) (k1 * 1)) none fun v0=>(oo (toI .i64 v0) none fun x0=>(bb (an (Nat.blt k1 (Sl.n s1)) true) (oo (nthL (Sl.cs s1) (k1 * 1)) none fun v1=>(oo (toI .i64 v1) none fun x1=>(bb (nt (ieq x0 x1)) (some (.bool false)) (ih0 s0 s1 (wrapF .i64 (Int.add (Int.ofNat k1) (1:Int))))))) none))) none)) (m14_0 pu n))
def l14_1 (pu:PureF) (n w:Nat):Sl→Sl→Int→OV:=
 Nat.rec (motive:=fun _=>Sl→Sl→Int→OV) (fun _ _ _=>none) (fun _ ih0=>b14_1 pu n ih0) w
def m14_ (pu:PureF) (n:Nat) (s0 s1:Sl):OV:=
 (bb (nt (ieq (Int.ofNat (Sl.n s0)) (Int.ofNat (Sl.n s1)))) (some (.bool false)) (l14_1 pu n n s0 s1 (0:Int)))
def m14 (pu:PureF) (n:Nat) (args:LV):OV:=
 (ll args none fun a0 args=>(ll args none fun a1 args=>(ll args (oo (toSl 1 a0) none fun s0=>(oo (toSl 1 a1) none fun s1=>(m14_ pu n s0 s1))) fun _ _=>none)))
theorem w14_0 (pu:PureF) (n:Nat) {v:Value} (hm:m14_0 pu n = some v):Run tt (callP tabs isP pu (inl pu)) 0 c14_23 (fr 26 []) (hp 0 []) (Fin tt 0 [.tmp 4] v):=by
 unfold m14_0 at hm
 refine .then (.rK ?_)
 refine .ghs (fr 26 [(4,zB true)]) (hp 0 []) (.k0 [] [] [4]) ?_
 refine .ret ?_
 exact fin_ret (zB true) (by kernel_rfl) (by kernel_rfl) hm
theorem r14 {call:CallF} (pu:PureF) (n:Nat) (hcall:call = callP tabs isP pu (inl pu)) {args:LV} {v:Value} (hm:m14 pu n args = some v) (_:∀ x ∈ args,closed2 x = true):args.length≤26∧Run tt call 0 c14_26 (Fr.made 26 args) (pureHeap tabs) (Fin tt 0 [.tmp 4] v):=by
 subst hcall
 unfold m14 at hm
 replace hm:=ll_uncons hm;obtain ⟨a0,args_0,rfl,hm⟩:=hm
 replace hm:=ll_uncons hm;obtain ⟨a1,args_1,rfl,hm⟩:=hm
 replace hm:=ll_end hm;obtain ⟨rfl,hm⟩:=hm
 replace hm:=inv_toSl hm;obtain ⟨s0,rfl,hm⟩:=hm
 replace hm:=inv_toSl hm;obtain ⟨s1,rfl,hm⟩:=hm
 unfold m14_ at hm
 refine ⟨by simp,?_⟩
 refine .same (F':=(fr 26 [(0,Sl.v 1 s0),(1,Sl.v 1 s1)])) (H':=(hp 0 [])) (by kernel_rfl) (by kernel_rfl) ?_
 refine .then (.rK ?_)
 refine .ghs (fr 26 [(0,Sl.v 1 s0),(1,Sl.v 1 s1)]) (hp 0 []) (.k0 [] [] [0,1]) ?_
 refine .then ?_
 refine .then (.rK ?_)
 refine .ghs (fr 26 [(0,Sl.v 1 s0),(1,Sl.v 1 s1),(10,(zB (nt (ieq (Int.ofNat (Sl.n s0)) (Int.ofNat (Sl.n s1))))))]) (hp 0 []) (.k0 [] [] [0,1,10]) ?_
 replace hm:=bb_cases hm;rcases hm with ⟨h0,hm⟩ | ⟨h0,hm⟩
 ·refine .ifT (nt (ieq (Int.ofNat (Sl.n s0)) (Int.ofNat (Sl.n s1)))) (by kernel_rfl) h0 ?_
  refine .then (.rK ?_)
  refine .ghs (fr 26 [(4,zB false)]) (hp 0 []) (.k0 [] [] [4]) ?_
  refine .ret ?_
  exact fin_ret (zB false) (by kernel_rfl) (by kernel_rfl) hm
 ·refine .ifF (nt (ieq (Int.ofNat (Sl.n s0)) (Int.ofNat (Sl.n s1)))) (by kernel_rfl) h0 ?_
  refine .skip ?_
  refine .ghs (fr 26 [(0,Sl.v 1 s0),(1,Sl.v 1 s1)]) (hp 0 []) (.k0 [] [] [0,1]) ?_
  refine .join (v:=v) (fun y:Unit=>((fr 26 []),(hp 0 []))) (fun y=>m14_0 pu n) ?_ ?_
  ·rintro _ hm
   exact w14_0 pu n hm
  ·refine .then (.rK ?_)
   refine .ghs (fr 26 [(0,Sl.v 1 s0),(1,Sl.v 1 s1),(5,(zI (0:Int)))]) (hp 0 []) (.k0 [] [] [0,1,5]) ?_
   refine .block ?_
   refine .loopM (v:=v) (fun y:Sl×Sl×Int=>((fr 26 [(0,(Sl.v 1 y.1)),(1,(Sl.v 1 y.2.1)),(5,(zI y.2.2))]),(hp 0 []))) (fun w y=>l14_1 pu n w y.1 y.2.1 y.2.2) n ⟨(s0,s1,(0:Int)),hm,(.k0 [] [] [0,1,5])⟩ (fun _=>rfl) ?_
   rintro w0 ⟨s2,s3,z0⟩ hm
   replace hm:b14_1 pu n (l14_1 pu n w0) s2 s3 z0 = some v:=hm
   unfold b14_1 at hm
   refine .then ?_
   refine .then (.rK ?_)
   refine .ghs (fr 26 [(0,Sl.v 1 s2),(1,Sl.v 1 s3),(5,zI z0),(14,(zB (ilt z0 (Int.ofNat (Sl.n s2)))))]) (hp 0 []) (.k0 [] [] [0,1,5,14]) ?_
   replace hm:=bb_cases hm;rcases hm with ⟨h1,hm⟩ | ⟨h1,hm⟩
   ·refine .ifT (ilt z0 (Int.ofNat (Sl.n s2))) (by kernel_rfl) h1 ?_
    refine .skip ?_
    refine .ghs (fr 26 [(0,Sl.v 1 s2),(1,Sl.v 1 s3),(5,zI z0)]) (hp 0 []) (.k0 [] [] [0,1,5]) ?_
    refine .then ?_
    refine .block ?_
    refine .then ?_
    replace hm:=oo_inv hm;obtain ⟨k1,h2,hm⟩:=hm
    obtain rfl:=toN_some h2
    replace hm:=bb_inv hm;obtain ⟨h3,hm⟩:=hm
    replace hm:=oo_inv hm;obtain ⟨v0,h4,hm⟩:=hm
    replace hm:=inv_toI hm;obtain ⟨x0,rfl,hm⟩:=hm
    replace hm:=bb_inv hm;obtain ⟨h5,hm⟩:=hm
    replace hm:=oo_inv hm;obtain ⟨v1,h6,hm⟩:=hm
    replace hm:=inv_toI hm;obtain ⟨x1,rfl,hm⟩:=hm
    refine .reg (eC 2 (keep (hp 0 []) (bb (an (Nat.blt k1 (Sl.n s2)) true) (some (fpV (k1 * 1) (Sl.cs s2))) none)) (keep_bb h3) (eD (keep (hp 0 []) (nthL (Sl.cs s2) (k1 * 1))) (keep_eq h4) (eC 2 (keep (hp 0 []) (bb (an (Nat.blt k1 (Sl.n s3)) true) (some (fpV (k1 * 1) (Sl.cs s3))) none)) (keep_bb h5) (eD (keep (hp 0 []) (nthL (Sl.cs s3) (k1 * 1))) (keep_eq h6) (eE))))) ?_
    refine .ghs (fr 26 [(0,Sl.v 1 s2),(1,Sl.v 1 s3),(5,(zI (Int.ofNat k1))),(25,(zB (nt (ieq x0 x1))))]) (hp 0 []) (.k0 [] [] [0,1,5,25]) ?_
    replace hm:=bb_cases hm;rcases hm with ⟨h7,hm⟩ | ⟨h7,hm⟩
    ·refine .ifT (nt (ieq x0 x1)) (by kernel_rfl) h7 ?_
     refine .then (.rK ?_)
     refine .ghs (fr 26 [(4,zB false)]) (hp 0 []) (.k0 [] [] [4]) ?_
     refine .ret ?_
     exact fin_ret (zB false) (by kernel_rfl) (by kernel_rfl) hm
    ·refine .ifF (nt (ieq x0 x1)) (by kernel_rfl) h7 ?_
     refine .skip ?_
     refine .ghs (fr 26 [(0,Sl.v 1 s2),(1,Sl.v 1 s3),(5,(zI (Int.ofNat k1)))]) (hp 0 []) (.k0 [] [] [0,1,5]) ?_
     refine .rK ?_
     exact ⟨(s2,s3,(wrapF .i64 (Int.add (Int.ofNat k1) (1:Int)))),hm,(.k0 [] [] [0,1,5])⟩
   ·refine .ifF (ilt z0 (Int.ofNat (Sl.n s2))) (by kernel_rfl) h1 ?_
    refine .exit ?_
    exact ⟨(),hm,(.k0 [] [] [])⟩
def m15_0 (pu:PureF) (n n0 c0:Nat) (q1:LV):OV:=
 (oo (mapO (toI .i64) q1) none fun z0=>(bb (wholeC 0 1 (len q1) n0) (bb (allL closed1 (mapL I64 (srtZ z0))) (bb (orr (Nat.ble 2 c0) (nilL (mapL I64 (srtZ z0)))) (bb (allL closed1 (mapL I64 (srtZ z0))) (oo (pu 10440 [(.slice (some ⟨0,0,some 1⟩) n0 c0),(.agg ⟨(mapL I64 (srtZ z0))⟩)]) none fun v0=>(oo (vTup v0) none fun l0=>(ll l0 none fun v1 l0=>(ll l0 none fun v2 l0=>(ll l0 (bb (isNoV v1) (oo (vAgg v2) none fun q2=>(bb (allL closed1 q2) (bb (allL closed1 q2) (bb (an (Nat.ble (0 + n0 * 1) (len q2)) (allL closed1 (takeL (n0 * 1) (dropL 0 q2)))) (some (Sl.v 1 (Sl.mk n0 0 (takeL (n0 * 1) (dropL 0 q2))))) none) none) none)) none) fun _ _=>none))))) none) none) none) none))
def m15_2 (pu:PureF) (n:Nat) (ih0:Nat→Nat→Sl→Int→Int→LV→OV) (n0 c0:Nat) (s0:Sl) (z0 z1:Int) (q1:LV):OV:=
 (bb (allL closed1 q1) (ih0 n0 c0 s0 z0 (wrapF .i64 (Int.add z1 (1:Int))) q1) none)
def b15_1 (pu:PureF) (n:Nat) (ih0:Nat→Nat→Sl→Int→Int→LV→OV) (n0 c0:Nat) (s0:Sl) (z0 z1:Int) (q1:LV):OV:=
 (bb (allL closed1 q1) (bb (ilt z1 z0) (oo (toN z1) none fun k1=>(bb (an (Nat.blt k1 (Sl.n s0)) true) (oo (nthL (Sl.cs s0) (k1 * 1)) none fun v0=>(oo (toI .i64 v0) none fun x0=>(bb (ilt (1:Int) x0) (bb (growC 1 8 n0 c0 1 q1) (bb (allL closed1 (appL (dropL 0 q1) [(.int .i64 (wrapF .i64 (Int.sub x0 (1:Int))))])) (m15_2 pu n ih0 (n0 + 1) (2 * (n0 + 1) + bb false 1 0) s0 z0 (Int.ofNat k1) (appL (dropL 0 q1) [(.int .i64 (wrapF .i64 (Int.sub x0 (1:Int))))])) none) none) (m15_2 pu n ih0 n0 c0 s0 z0 (Int.ofNat k1) q1)))) none)) (m15_0 pu n n0 c0 q1)) none)
def l15_1 (pu:PureF) (n w:Nat):Nat→Nat→Sl→Int→Int→LV→OV:=
 Nat.rec (motive:=fun _=>Nat→Nat→Sl→Int→Int→LV→OV) (fun _ _ _ _ _ _=>none) (fun _ ih0=>b15_1 pu n ih0) w
def m15_ (pu:PureF) (n:Nat) (s0:Sl):OV:=
 (l15_1 pu n n 1 2 s0 (Int.ofNat (Sl.n s0)) (0:Int) ([(.int .i64 (Int.ofNat (Sl.n s0)))]:LV))
def m15 (pu:PureF) (n:Nat) (args:LV):OV:=
 (ll args none fun a0 args=>(ll args (oo (toSl 1 a0) none fun s0=>(m15_ pu n s0)) fun _ _=>none))
theorem w15_0 (pu:PureF) (n n0 c0:Nat) (q1:LV) {v:Value} (hm:m15_0 pu n n0 c0 q1 = some v):Run tt (callP tabs isP pu (inl pu)) 0 c15_24 (fr 29 [(3,sc 0 0 1 n0 c0)]) (hp 1 [oC q1]) (Fin tt 0 [.tmp 2] v):=by
 unfold m15_0 at hm
 refine .then ?_
 replace hm:=oo_inv hm;obtain ⟨z0,h0,hm⟩:=hm
 replace hm:=bb_inv hm;obtain ⟨h1,hm⟩:=hm
 refine .reg (eC 1 (sortF [sc 0 0 1 n0 c0] (hp 1 [oC q1])) (sortF_eq (x:=(sc 0 0 1 n0 c0)) (H:=(hp 1 [oC q1])) (id:=0) (ln:=n0) (c2:=c0) (xs:=q1) (anc:=[]) (by kernel_rfl) (by kernel_rfl) h0 h1) (eE)) ?_
 replace hm:=bb_inv hm;obtain ⟨h2,hm⟩:=hm
 refine .ghs (fr 29 [(3,sc 0 0 1 n0 c0)]) (hp 1 [(oC (mapL I64 (srtZ z0)))]) (.k [0] [] [.tmp 3 false] [3] ⟨trF h2,trivial⟩) ?_
 refine .then ?_
 replace hm:=bb_inv hm;obtain ⟨h3,hm⟩:=hm
 replace hm:=bb_inv hm;obtain ⟨h4,hm⟩:=hm
 replace hm:=oo_inv hm;obtain ⟨v0,h5,hm⟩:=hm
 replace hm:=inv_vTup hm;obtain ⟨l0,rfl,hm⟩:=hm
 replace hm:=ll_uncons hm;obtain ⟨v1,l635_0,rfl,hm⟩:=hm
 replace hm:=ll_uncons hm;obtain ⟨v2,l635_1,rfl,hm⟩:=hm
 replace hm:=ll_end hm;obtain ⟨rfl,hm⟩:=hm
 replace hm:=bb_inv hm;obtain ⟨h6,hm⟩:=hm
 obtain rfl:=isNoV_ok h6
 replace hm:=inv_vAgg hm;obtain ⟨q2,rfl,hm⟩:=hm
 replace hm:=bb_inv hm;obtain ⟨h7,hm⟩:=hm
 refine .reg (eC 1 (objG tabs [[none]] 1 [.tmp 0 false] [false] (pu 10440) [sc 0 0 1 n0 c0] (hp 1 [(oC (mapL I64 (srtZ z0)))])) (objG_eq (as:=[sc 0 0 1 n0 c0]) (H1:=(hp 1 [(oC (mapL I64 (srtZ z0)))])) (gvAL_c (gvA_1 gv_n) gvAL_n) (objF_eq (H2:=(hp 1 [oC q2])) (v:=(.tuple ⟨[]⟩)) (v':=(.tuple ⟨[]⟩)) [some 0] [(false,some 0)] [(oC (mapL I64 (srtZ z0)))] [sc 0 0 1 n0 c0] [(.agg ⟨q2⟩)] [oC q2] [some 0] [(false,oC q2)] [oC q2] (trE (by kernel_rfl) (rootL h3 rfl)) (mapO_c (nO_list (anc:=[]) h4) mapO_n) (Eq.trans (by kernel_rfl) h5) (mapO_c rfl mapO_n) (mapO_c (bO_list h7) mapO_n))) (eE)) ?_
 replace hm:=bb_inv hm;obtain ⟨h8,hm⟩:=hm
 refine .ghs (fr 29 [(3,sc 0 0 1 n0 c0)]) (hp 1 [oC q2]) (.k [0] [] [.tmp 3 false] [3] ⟨trF h8,trivial⟩) ?_
 refine .then (.rK ?_)
 refine .ghs (fr 29 [(2,sc 0 0 1 n0 c0)]) (hp 1 [oC q2]) (.k [0] [] [.tmp 2 false] [2] ⟨trF h8,trivial⟩) ?_
 replace hm:=bb_inv hm;obtain ⟨h9,hm⟩:=hm
 refine .ghs (Fr.puts (fr 29 [(2,sc 0 0 1 n0 c0)]) [(2,(Sl.v 1 (Sl.mk n0 0 (takeL (n0 * 1) (dropL 0 q2)))))]) (hp 1 [.dead]) (.freezeC 0 2 1 (an (Nat.ble (0 + n0 * 1) (len q2)) (allL closed1 (takeL (n0 * 1) (dropL 0 q2)))) (F1:=(Fr.puts (fr 29 [(2,sc 0 0 1 n0 c0)]) [(2,(Sl.v 1 (Sl.mk n0 0 (takeL (n0 * 1) (dropL 0 q2)))))])) (H1:=(hp 1 [.dead])) (by kernel_rfl) (by kernel_rfl) h9 (GhS.id _ _)) ?_
 refine .ret ?_
 exact fin_ret (Sl.v 1 (Sl.mk n0 0 (takeL (n0 * 1) (dropL 0 q2)))) (by kernel_rfl) (by kernel_rfl) hm
theorem r15 {call:CallF} (pu:PureF) (n:Nat) (hcall:call = callP tabs isP pu (inl pu)) {args:LV} {v:Value} (hm:m15 pu n args = some v) (_:∀ x ∈ args,closed2 x = true):args.length≤29∧Run tt call 0 c15_27 (Fr.made 29 args) (pureHeap tabs) (Fin tt 0 [.tmp 2] v):=by
 subst hcall
 unfold m15 at hm
 replace hm:=ll_uncons hm;obtain ⟨a0,args_0,rfl,hm⟩:=hm
 replace hm:=ll_end hm;obtain ⟨rfl,hm⟩:=hm
 replace hm:=inv_toSl hm;obtain ⟨s0,rfl,hm⟩:=hm
 unfold m15_ at hm
 refine ⟨by simp,?_⟩
 refine .same (F':=(fr 29 [(0,Sl.v 1 s0)])) (H':=(hp 0 [])) (by kernel_rfl) (by kernel_rfl) ?_
 refine .then (.rK ?_)
 refine .ghs (fr 29 [(0,Sl.v 1 s0)]) (hp 0 []) (.k0 [] [] [0]) ?_
 refine .then ?_
 refine .reg (eC 3 (identF [sc 0 0 1 1 3] (hp 1 [(oC [(zI (Int.ofNat (Sl.n s0)))])])) rfl (eE)) ?_
 refine .ghs (fr 29 [(0,Sl.v 1 s0),(3,sc 0 0 1 1 3)]) (hp 1 [(oC [(zI (Int.ofNat (Sl.n s0)))])]) (.k0 [] [.tmp 3 false] [0,3]) ?_
 refine .join (v:=v) (fun y:Nat×Nat×LV=>((fr 29 [(3,(sc 0 0 1 y.1 y.2.1))]),(hp 1 [(oC y.2.2)]))) (fun y=>m15_0 pu n y.1 y.2.1 y.2.2) ?_ ?_
 ·rintro ⟨n0, c0, q1⟩ hm
  exact w15_0 pu n n0 c0 q1 hm
 ·refine .then (.rK ?_)
  refine .ghs (fr 29 [(3,sc 0 0 1 1 3),(10,Sl.v 1 s0),(11,(zI (Int.ofNat (Sl.n s0)))),(12,(zI (0:Int)))]) (hp 1 [(oC [(zI (Int.ofNat (Sl.n s0)))])]) (.k0 [] [.tmp 3 false] [3,10,11,12]) ?_
  refine .block ?_
  refine .loopM (v:=v) (fun y:Nat×Nat×Sl×Int×Int×LV=>((fr 29 [(3,(sc 0 0 1 y.1 y.2.1)),(10,(Sl.v 1 y.2.2.1)),(11,(zI y.2.2.2.1)),(12,(zI y.2.2.2.2.1))]),(hp 1 [(oC y.2.2.2.2.2)]))) (fun w y=>l15_1 pu n w y.1 y.2.1 y.2.2.1 y.2.2.2.1 y.2.2.2.2.1 y.2.2.2.2.2) n ⟨(1,2,s0,(Int.ofNat (Sl.n s0)),(0:Int),([(zI (Int.ofNat (Sl.n s0)))]:LV)),hm,(.weak 3 (sc 0 0 1 1 2) (v:=(sc 0 0 1 1 3)) (by kernel_rfl) (Weak.cap 0 0 1 1 1) (.k0 [] [.tmp 3 false] [3,10,11,12]))⟩ (fun _=>rfl) ?_
  rintro w0 ⟨n1,c1,s1,z0,z1,q2⟩ hm
  replace hm:b15_1 pu n (l15_1 pu n w0) n1 c1 s1 z0 z1 q2 = some v:=hm
  unfold b15_1 at hm
  refine .then (.rK ?_)
  replace hm:=bb_inv hm;obtain ⟨h0,hm⟩:=hm
  refine .ghs (fr 29 [(3,sc 0 0 1 n1 c1),(10,Sl.v 1 s1),(11,zI z0),(12,zI z1),(13,(zB (ilt z1 z0)))]) (hp 1 [oC q2]) (.k [0] [] [.tmp 3 false] [3,10,11,12,13] ⟨trF h0,trivial⟩) ?_
  refine .then ?_
  replace hm:=bb_cases hm;rcases hm with ⟨h1,hm⟩ | ⟨h1,hm⟩
  ·refine .ifT (ilt z1 z0) (by kernel_rfl) h1 ?_
   refine .skip ?_
   refine .ghs (fr 29 [(3,sc 0 0 1 n1 c1),(10,Sl.v 1 s1),(11,zI z0),(12,zI z1)]) (hp 1 [oC q2]) (.k [0] [] [.tmp 3 false] [3,10,11,12] ⟨trF h0,trivial⟩) ?_
   refine .join (v:=v) (fun y:Nat×Nat×Sl×Int×Int×LV=>((fr 29 [(3,(sc 0 0 1 y.1 y.2.1)),(10,(Sl.v 1 y.2.2.1)),(11,(zI y.2.2.2.1)),(12,(zI y.2.2.2.2.1))]),(hp 1 [(oC y.2.2.2.2.2)]))) (fun y=>m15_2 pu n (l15_1 pu n w0) y.1 y.2.1 y.2.2.1 y.2.2.2.1 y.2.2.2.2.1 y.2.2.2.2.2) ?_ ?_
   ·rintro ⟨n2, c2, s2, z2, z3, q3⟩ hm
    unfold m15_2 at hm
    refine .rK ?_
    replace hm:=bb_inv hm;obtain ⟨h2,hm⟩:=hm
    exact ⟨(n2,c2,s2,z2,(wrapF .i64 (Int.add z3 (1:Int))),q3),hm,(.k [0] [] [.tmp 3 false] [3,10,11,12] ⟨trF h2,trivial⟩)⟩
   ·refine .block ?_
    refine .then ?_
    replace hm:=oo_inv hm;obtain ⟨k1,h3,hm⟩:=hm
    obtain rfl:=toN_some h3
    replace hm:=bb_inv hm;obtain ⟨h4,hm⟩:=hm
    replace hm:=oo_inv hm;obtain ⟨v0,h5,hm⟩:=hm
    replace hm:=inv_toI hm;obtain ⟨x0,rfl,hm⟩:=hm
    refine .reg (eD (keep (hp 1 [oC q2]) (bb (an (Nat.blt k1 (Sl.n s1)) true) (some (fpV (k1 * 1) (Sl.cs s1))) none)) (keep_bb h4) (eD (keep (hp 1 [oC q2]) (nthL (Sl.cs s1) (k1 * 1))) (keep_eq h5) (eE))) ?_
    refine .ghs (fr 29 [(3,sc 0 0 1 n1 c1),(5,zI x0),(10,Sl.v 1 s1),(11,zI z0),(12,(zI (Int.ofNat k1)))]) (hp 1 [oC q2]) (.k [0] [] [.tmp 3 false] [3,5,10,11,12] ⟨trF h0,trivial⟩) ?_
    refine .then (.rK ?_)
    refine .ghs (fr 29 [(3,sc 0 0 1 n1 c1),(5,zI x0),(10,Sl.v 1 s1),(11,zI z0),(12,(zI (Int.ofNat k1))),(17,(zB (ilt (1:Int) x0)))]) (hp 1 [oC q2]) (.k [0] [] [.tmp 3 false] [3,5,10,11,12,17] ⟨trF h0,trivial⟩) ?_
    replace hm:=bb_cases hm;rcases hm with ⟨h6,hm⟩ | ⟨h6,hm⟩
    ·refine .ifT (ilt (1 : Int) x0) (by kernel_rfl) h6 ?_
     replace hm:=bb_inv hm;obtain ⟨h7,hm⟩:=hm
     refine .reg (eC 4 (growD 1 8 n1 c1 1 0 q2 [(zI (wrapF .i64 (Int.sub x0 (1:Int))))] [] (hp 2 [oC q2,(oC [(zI (wrapF .i64 (Int.sub x0 (1:Int))))])])) (growD_eq h7) (eE)) ?_
     replace hm:=bb_inv hm;obtain ⟨h8,hm⟩:=hm
     exact ⟨((n1 + 1),(d2 (n1 + 1)),s1,z0,(Int.ofNat k1),(appL (dropL 0 q2) [(zI (wrapF .i64 (Int.sub x0 (1:Int))))])),hm,(.k [2] [] [.tmp 3 false] [3,10,11,12] ⟨trF h8,trivial⟩)⟩
    ·refine .ifF (ilt (1 : Int) x0) (by kernel_rfl) h6 ?_
     refine .skip ?_
     exact ⟨(n1,c1,s1,z0,(Int.ofNat k1),q2),hm,(.k [0] [] [.tmp 3 false] [3,10,11,12] ⟨trF h0,trivial⟩)⟩
  ·refine .ifF (ilt z1 z0) (by kernel_rfl) h1 ?_
   refine .exit ?_
   exact ⟨(n1,c1,q2),hm,(.k [0] [] [.tmp 3 false] [3] ⟨trF h0,trivial⟩)⟩
def m17_1 (pu:PureF) (n n0 c0:Nat) (q1:LV):OV:=
 (oo (mapO (toI .i64) q1) none fun z0=>(bb (wholeC 0 1 (len q1) n0) (bb (allL closed1 (mapL I64 (srtZ z0))) (bb (orr (Nat.ble 2 c0) (nilL (mapL I64 (srtZ z0)))) (bb (allL closed1 (mapL I64 (srtZ z0))) (oo (pu 10440 [(.slice (some ⟨0,0,some 1⟩) n0 c0),(.agg ⟨(mapL I64 (srtZ z0))⟩)]) none fun v0=>(oo (vTup v0) none fun l0=>(ll l0 none fun v1 l0=>(ll l0 none fun v2 l0=>(ll l0 (bb (isNoV v1) (oo (vAgg v2) none fun q2=>(bb (allL closed1 q2) (bb (allL closed1 q2) (bb (an (Nat.ble (0 + n0 * 1) (len q2)) (allL closed1 (takeL (n0 * 1) (dropL 0 q2)))) (some (Sl.v 1 (Sl.mk n0 0 (takeL (n0 * 1) (dropL 0 q2))))) none) none) none)) none) fun _ _=>none))))) none) none) none) none))
def m17_0 (pu:PureF) (n n0 c0:Nat) (q1:LV):OV:=
 (bb (allL closed1 q1) (bb (ieq (Int.ofNat n0) (0:Int)) (m17_1 pu n 1 3 ([(.int .i64 (1:Int))]:LV)) (m17_1 pu n n0 c0 q1)) none)
def b17_2 (pu:PureF) (n:Nat) (ih0:Nat→Nat→Int→Sl→Int→Int→LV→OV) (n0 c0:Nat) (z0:Int) (s0:Sl) (z1 z2:Int) (q1:LV):OV:=
 (bb (allL closed1 q1) (bb (ilt z2 z1) (oo (toN z2) none fun k1=>(bb (an (Nat.blt k1 (Sl.n s0)) true) (oo (nthL (Sl.cs s0) (k1 * 1)) none fun v0=>(oo (toI .u8 v0) none fun x0=>(bb (ieq z0 (0:Int)) (m17_0 pu n n0 c0 q1) (bb (nt (ieq z0 (0:Int))) (bb (growC 1 8 n0 c0 1 q1) (bb (allL closed1 (appL (dropL 0 q1) [(.int .i64 (wrapF .i64 (Int.add (1:Int) (Int.tmod (wrapF .i64 x0) z0))))])) (ih0 (n0 + 1) (2 * (n0 + 1) + bb false 1 0) (wrapF .i64 (Int.sub z0 (wrapF .i64 (Int.add (1:Int) (Int.tmod (wrapF .i64 x0) z0))))) s0 z1 (wrapF .i64 (Int.add (Int.ofNat k1) (1:Int))) (appL (dropL 0 q1) [(.int .i64 (wrapF .i64 (Int.add (1:Int) (Int.tmod (wrapF .i64 x0) z0))))])) none) none) none)))) none)) (m17_0 pu n n0 c0 q1)) none)
def l17_2 (pu:PureF) (n w:Nat):Nat→Nat→Int→Sl→Int→Int→LV→OV:=
 Nat.rec (motive:=fun _=>Nat→Nat→Int→Sl→Int→Int→LV→OV) (fun _ _ _ _ _ _ _=>none) (fun _ ih0=>b17_2 pu n ih0) w
def m17_ (pu:PureF) (n:Nat) (s0:Sl) (x0:Int):OV:=
 (l17_2 pu n n 0 0 x0 s0 (Int.ofNat (Sl.n s0)) (0:Int) ([]:LV))
def m17 (pu:PureF) (n:Nat) (args:LV):OV:=
 (ll args none fun a0 args=>(ll args none fun a1 args=>(ll args (oo (toSl 1 a0) none fun s0=>(oo (toI .i64 a1) none fun x0=>(m17_ pu n s0 x0))) fun _ _=>none)))
theorem w17_1 (pu:PureF) (n n0 c0:Nat) (q1:LV) {v:Value} (hm:m17_1 pu n n0 c0 q1 = some v):Run tt (callP tabs isP pu (inl pu)) 0 c17_34 (fr 42 [(5,sc 0 0 1 n0 c0)]) (hp 1 [oC q1]) (Fin tt 0 [.tmp 4] v):=by
 unfold m17_1 at hm
 refine .then ?_
 replace hm:=oo_inv hm;obtain ⟨z0,h0,hm⟩:=hm
 replace hm:=bb_inv hm;obtain ⟨h1,hm⟩:=hm
 refine .reg (eC 1 (sortF [sc 0 0 1 n0 c0] (hp 1 [oC q1])) (sortF_eq (x:=(sc 0 0 1 n0 c0)) (H:=(hp 1 [oC q1])) (id:=0) (ln:=n0) (c2:=c0) (xs:=q1) (anc:=[]) (by kernel_rfl) (by kernel_rfl) h0 h1) (eE)) ?_
 replace hm:=bb_inv hm;obtain ⟨h2,hm⟩:=hm
 refine .ghs (fr 42 [(5,sc 0 0 1 n0 c0)]) (hp 1 [(oC (mapL I64 (srtZ z0)))]) (.k [0] [] [.tmp 5 false] [5] ⟨trF h2,trivial⟩) ?_
 refine .then ?_
 replace hm:=bb_inv hm;obtain ⟨h3,hm⟩:=hm
 replace hm:=bb_inv hm;obtain ⟨h4,hm⟩:=hm
 replace hm:=oo_inv hm;obtain ⟨v0,h5,hm⟩:=hm
 replace hm:=inv_vTup hm;obtain ⟨l0,rfl,hm⟩:=hm
 replace hm:=ll_uncons hm;obtain ⟨v1,l766_0,rfl,hm⟩:=hm
 replace hm:=ll_uncons hm;obtain ⟨v2,l766_1,rfl,hm⟩:=hm
 replace hm:=ll_end hm;obtain ⟨rfl,hm⟩:=hm
 replace hm:=bb_inv hm;obtain ⟨h6,hm⟩:=hm
 obtain rfl:=isNoV_ok h6
 replace hm:=inv_vAgg hm;obtain ⟨q2,rfl,hm⟩:=hm
 replace hm:=bb_inv hm;obtain ⟨h7,hm⟩:=hm
 refine .reg (eC 1 (objG tabs [[none]] 1 [.tmp 0 false] [false] (pu 10440) [sc 0 0 1 n0 c0] (hp 1 [(oC (mapL I64 (srtZ z0)))])) (objG_eq (as:=[sc 0 0 1 n0 c0]) (H1:=(hp 1 [(oC (mapL I64 (srtZ z0)))])) (gvAL_c (gvA_1 gv_n) gvAL_n) (objF_eq (H2:=(hp 1 [oC q2])) (v:=(.tuple ⟨[]⟩)) (v':=(.tuple ⟨[]⟩)) [some 0] [(false,some 0)] [(oC (mapL I64 (srtZ z0)))] [sc 0 0 1 n0 c0] [(.agg ⟨q2⟩)] [oC q2] [some 0] [(false,oC q2)] [oC q2] (trE (by kernel_rfl) (rootL h3 rfl)) (mapO_c (nO_list (anc:=[]) h4) mapO_n) (Eq.trans (by kernel_rfl) h5) (mapO_c rfl mapO_n) (mapO_c (bO_list h7) mapO_n))) (eE)) ?_
 replace hm:=bb_inv hm;obtain ⟨h8,hm⟩:=hm
 refine .ghs (fr 42 [(5,sc 0 0 1 n0 c0)]) (hp 1 [oC q2]) (.k [0] [] [.tmp 5 false] [5] ⟨trF h8,trivial⟩) ?_
 refine .then (.rK ?_)
 refine .ghs (fr 42 [(4,sc 0 0 1 n0 c0)]) (hp 1 [oC q2]) (.k [0] [] [.tmp 4 false] [4] ⟨trF h8,trivial⟩) ?_
 replace hm:=bb_inv hm;obtain ⟨h9,hm⟩:=hm
 refine .ghs (Fr.puts (fr 42 [(4,sc 0 0 1 n0 c0)]) [(4,(Sl.v 1 (Sl.mk n0 0 (takeL (n0 * 1) (dropL 0 q2)))))]) (hp 1 [.dead]) (.freezeC 0 4 1 (an (Nat.ble (0 + n0 * 1) (len q2)) (allL closed1 (takeL (n0 * 1) (dropL 0 q2)))) (F1:=(Fr.puts (fr 42 [(4,sc 0 0 1 n0 c0)]) [(4,(Sl.v 1 (Sl.mk n0 0 (takeL (n0 * 1) (dropL 0 q2)))))])) (H1:=(hp 1 [.dead])) (by kernel_rfl) (by kernel_rfl) h9 (GhS.id _ _)) ?_
 refine .ret ?_
 exact fin_ret (Sl.v 1 (Sl.mk n0 0 (takeL (n0 * 1) (dropL 0 q2)))) (by kernel_rfl) (by kernel_rfl) hm
theorem w17_0 (pu:PureF) (n n0 c0:Nat) (q1:LV) {v:Value} (hm:m17_0 pu n n0 c0 q1 = some v):Run tt (callP tabs isP pu (inl pu)) 0 c17_35 (fr 42 [(5,sc 0 0 1 n0 c0)]) (hp 1 [oC q1]) (Fin tt 0 [.tmp 4] v):=by
 unfold m17_0 at hm
 refine .join (v:=v) (fun y:Nat×Nat×LV=>((fr 42 [(5,(sc 0 0 1 y.1 y.2.1))]),(hp 1 [(oC y.2.2)]))) (fun y=>m17_1 pu n y.1 y.2.1 y.2.2) ?_ ?_
 ·rintro ⟨n1, c1, q2⟩ hm
  exact w17_1 pu n n1 c1 q2 hm
 ·refine .then (.rK ?_)
  replace hm:=bb_inv hm;obtain ⟨h0,hm⟩:=hm
  refine .ghs (fr 42 [(5,sc 0 0 1 n0 c0),(34,(zB (ieq (Int.ofNat n0) (0:Int))))]) (hp 1 [oC q1]) (.k [0] [] [.tmp 5 false] [5,34] ⟨trF h0,trivial⟩) ?_
  replace hm:=bb_cases hm;rcases hm with ⟨h1,hm⟩ | ⟨h1,hm⟩
  ·refine .ifT (ieq (Int.ofNat n0) (0 : Int)) (by kernel_rfl) h1 ?_
   refine .reg (eC 1 (identF [sc 1 0 1 1 3] (hp 2 [oC q1,(oC [(zI (1:Int))])])) rfl (eE)) ?_
   exact ⟨(1,3,([(zI (1:Int))]:LV)),hm,(.k0 [] [.tmp 5 false] [5])⟩
  ·refine .ifF (ieq (Int.ofNat n0) (0 : Int)) (by kernel_rfl) h1 ?_
   refine .skip ?_
   exact ⟨(n0,c0,q1),hm,(.k [0] [] [.tmp 5 false] [5] ⟨trF h0,trivial⟩)⟩
theorem r17 {call:CallF} (pu:PureF) (n:Nat) (hcall:call = callP tabs isP pu (inl pu)) {args:LV} {v:Value} (hm:m17 pu n args = some v) (_:∀ x ∈ args,closed2 x = true):args.length≤42∧Run tt call 0 c17_39 (Fr.made 42 args) (pureHeap tabs) (Fin tt 0 [.tmp 4] v):=by
 subst hcall
 unfold m17 at hm
 replace hm:=ll_uncons hm;obtain ⟨a0,args_0,rfl,hm⟩:=hm
 replace hm:=ll_uncons hm;obtain ⟨a1,args_1,rfl,hm⟩:=hm
 replace hm:=ll_end hm;obtain ⟨rfl,hm⟩:=hm
 replace hm:=inv_toSl hm;obtain ⟨s0,rfl,hm⟩:=hm
 replace hm:=inv_toI hm;obtain ⟨x0,rfl,hm⟩:=hm
 unfold m17_ at hm
 refine ⟨by simp,?_⟩
 refine .same (F':=(fr 42 [(0,Sl.v 1 s0),(1,zI x0)])) (H':=(hp 0 [])) (by kernel_rfl) (by kernel_rfl) ?_
 refine .then (.rK ?_)
 refine .ghs (fr 42 [(0,Sl.v 1 s0),(1,zI x0)]) (hp 0 []) (.k0 [] [] [0,1]) ?_
 refine .then (.rK ?_)
 refine .ghs (fr 42 [(0,Sl.v 1 s0),(1,zI x0),(5,(.slice none 0 0))]) (hp 0 []) (.k0 [] [] [0,1,5]) ?_
 refine .then (.rK ?_)
 refine .ghs (fr 42 [(0,Sl.v 1 s0),(5,(.slice none 0 0)),(6,zI x0)]) (hp 0 []) (.k0 [] [] [0,5,6]) ?_
 refine .join (v:=v) (fun y:Nat×Nat×LV=>((fr 42 [(5,(sc 0 0 1 y.1 y.2.1))]),(hp 1 [(oC y.2.2)]))) (fun y=>m17_0 pu n y.1 y.2.1 y.2.2) ?_ ?_
 ·rintro ⟨n0, c0, q1⟩ hm
  exact w17_0 pu n n0 c0 q1 hm
 ·refine .then (.rK ?_)
  refine .ghs (fr 42 [(5,(.slice none 0 0)),(6,zI x0),(11,Sl.v 1 s0),(12,(zI (Int.ofNat (Sl.n s0)))),(13,(zI (0:Int)))]) (hp 0 []) (.k0 [] [] [5,6,11,12,13]) ?_
  refine .block ?_
  refine .loopM (v:=v) (fun y:Nat×Nat×Int×Sl×Int×Int×LV=>((fr 42 [(5,(sc 0 0 1 y.1 y.2.1)),(6,(zI y.2.2.1)),(11,(Sl.v 1 y.2.2.2.1)),(12,(zI y.2.2.2.2.1)),(13,(zI y.2.2.2.2.2.1))]),(hp 1 [(oC y.2.2.2.2.2.2)]))) (fun w y=>l17_2 pu n w y.1 y.2.1 y.2.2.1 y.2.2.2.1 y.2.2.2.2.1 y.2.2.2.2.2.1 y.2.2.2.2.2.2) n ⟨(0,0,x0,s0,(Int.ofNat (Sl.n s0)),(0:Int),([]:LV)),hm,(.thaw 5 1 (by kernel_rfl) (.k0 [] [.tmp 5 false] [5,6,11,12,13]))⟩ (fun _=>rfl) ?_
  rintro w0 ⟨n1,c1,z0,s1,z1,z2,q2⟩ hm
  replace hm:b17_2 pu n (l17_2 pu n w0) n1 c1 z0 s1 z1 z2 q2 = some v:=hm
  unfold b17_2 at hm
  refine .then (.rK ?_)
  replace hm:=bb_inv hm;obtain ⟨h0,hm⟩:=hm
  refine .ghs (fr 42 [(5,sc 0 0 1 n1 c1),(6,zI z0),(11,Sl.v 1 s1),(12,zI z1),(13,zI z2),(14,(zB (ilt z2 z1)))]) (hp 1 [oC q2]) (.k [0] [] [.tmp 5 false] [5,6,11,12,13,14] ⟨trF h0,trivial⟩) ?_
  refine .then ?_
  replace hm:=bb_cases hm;rcases hm with ⟨h1,hm⟩ | ⟨h1,hm⟩
  ·refine .ifT (ilt z2 z1) (by kernel_rfl) h1 ?_
   refine .skip ?_
   refine .ghs (fr 42 [(5,sc 0 0 1 n1 c1),(6,zI z0),(11,Sl.v 1 s1),(12,zI z1),(13,zI z2)]) (hp 1 [oC q2]) (.k [0] [] [.tmp 5 false] [5,6,11,12,13] ⟨trF h0,trivial⟩) ?_
   refine .then ?_
   refine .block ?_
   refine .then ?_
   replace hm:=oo_inv hm;obtain ⟨k1,h2,hm⟩:=hm
   obtain rfl:=toN_some h2
   replace hm:=bb_inv hm;obtain ⟨h3,hm⟩:=hm
   replace hm:=oo_inv hm;obtain ⟨v0,h4,hm⟩:=hm
   replace hm:=inv_toI hm;obtain ⟨x1,rfl,hm⟩:=hm
   refine .reg (eD (keep (hp 1 [oC q2]) (bb (an (Nat.blt k1 (Sl.n s1)) true) (some (fpV (k1 * 1) (Sl.cs s1))) none)) (keep_bb h3) (eD (keep (hp 1 [oC q2]) (nthL (Sl.cs s1) (k1 * 1))) (keep_eq h4) (eE))) ?_
   refine .ghs (fr 42 [(5,sc 0 0 1 n1 c1),(6,zI z0),(8,(zY x1)),(11,Sl.v 1 s1),(12,zI z1),(13,(zI (Int.ofNat k1)))]) (hp 1 [oC q2]) (.k [0] [] [.tmp 5 false] [5,6,8,11,12,13] ⟨trF h0,trivial⟩) ?_
   refine .then ?_
   refine .then (.rK ?_)
   refine .ghs (fr 42 [(5,sc 0 0 1 n1 c1),(6,zI z0),(8,(zY x1)),(11,Sl.v 1 s1),(12,zI z1),(13,(zI (Int.ofNat k1))),(18,(zB (ieq z0 (0:Int))))]) (hp 1 [oC q2]) (.k [0] [] [.tmp 5 false] [5,6,8,11,12,13,18] ⟨trF h0,trivial⟩) ?_
   replace hm:=bb_cases hm;rcases hm with ⟨h5,hm⟩ | ⟨h5,hm⟩
   ·refine .ifT (ieq z0 (0 : Int)) (by kernel_rfl) h5 ?_
    refine .exit ?_
    exact ⟨(n1,c1,q2),hm,(.k [0] [] [.tmp 5 false] [5] ⟨trF h0,trivial⟩)⟩
   ·refine .ifF (ieq z0 (0 : Int)) (by kernel_rfl) h5 ?_
    refine .skip ?_
    refine .ghs (fr 42 [(5,sc 0 0 1 n1 c1),(6,zI z0),(8,(zY x1)),(11,Sl.v 1 s1),(12,zI z1),(13,(zI (Int.ofNat k1)))]) (hp 1 [oC q2]) (.k [0] [] [.tmp 5 false] [5,6,8,11,12,13] ⟨trF h0,trivial⟩) ?_
    refine .then ?_
    replace hm:=bb_inv hm;obtain ⟨h6,hm⟩:=hm
    refine .reg (eC 3 (keep (hp 1 [oC q2]) (bb (ieq z0 (0:Int)) none (some (zI (Int.tmod (wrapF .i64 x1) z0))))) (keep_nb h6) (eE)) ?_
    refine .ghs (fr 42 [(5,sc 0 0 1 n1 c1),(6,zI z0),(9,(zI (wrapF .i64 (Int.add (1:Int) (Int.tmod (wrapF .i64 x1) z0))))),(11,Sl.v 1 s1),(12,zI z1),(13,(zI (Int.ofNat k1)))]) (hp 1 [oC q2]) (.k [0] [] [.tmp 5 false] [5,6,9,11,12,13] ⟨trF h0,trivial⟩) ?_
    refine .then ?_
    replace hm:=bb_inv hm;obtain ⟨h7,hm⟩:=hm
    refine .reg (eC 3 (growD 1 8 n1 c1 1 0 q2 [(zI (wrapF .i64 (Int.add (1:Int) (Int.tmod (wrapF .i64 x1) z0))))] [] (hp 2 [oC q2,(oC [(zI (wrapF .i64 (Int.add (1:Int) (Int.tmod (wrapF .i64 x1) z0))))])])) (growD_eq h7) (eE)) ?_
    replace hm:=bb_inv hm;obtain ⟨h8,hm⟩:=hm
    refine .ghs (fr 42 [(5,(sc 0 0 1 (n1 + 1) (d2 (n1 + 1)))),(6,zI z0),(9,(zI (wrapF .i64 (Int.add (1:Int) (Int.tmod (wrapF .i64 x1) z0))))),(11,Sl.v 1 s1),(12,zI z1),(13,(zI (Int.ofNat k1)))]) (hp 1 [(oC (appL (dropL 0 q2) [(zI (wrapF .i64 (Int.add (1:Int) (Int.tmod (wrapF .i64 x1) z0))))]))]) (.k [2] [] [.tmp 5 false] [5,6,9,11,12,13] ⟨trF h8,trivial⟩) ?_
    refine .rK ?_
    refine .ghs (fr 42 [(5,(sc 0 0 1 (n1 + 1) (d2 (n1 + 1)))),(6,(zI (wrapF .i64 (Int.sub z0 (wrapF .i64 (Int.add (1:Int) (Int.tmod (wrapF .i64 x1) z0))))))),(11,Sl.v 1 s1),(12,zI z1),(13,(zI (Int.ofNat k1)))]) (hp 1 [(oC (appL (dropL 0 q2) [(zI (wrapF .i64 (Int.add (1:Int) (Int.tmod (wrapF .i64 x1) z0))))]))]) (.k [0] [] [.tmp 5 false] [5,6,11,12,13] ⟨trF h8,trivial⟩) ?_
    refine .rK ?_
    exact ⟨((n1 + 1),(d2 (n1 + 1)),(wrapF .i64 (Int.sub z0 (wrapF .i64 (Int.add (1:Int) (Int.tmod (wrapF .i64 x1) z0))))),s1,z1,(wrapF .i64 (Int.add (Int.ofNat k1) (1:Int))),(appL (dropL 0 q2) [(zI (wrapF .i64 (Int.add (1:Int) (Int.tmod (wrapF .i64 x1) z0))))])),hm,(.k [0] [] [.tmp 5 false] [5,6,11,12,13] ⟨trF h8,trivial⟩)⟩
  ·refine .ifF (ilt z2 z1) (by kernel_rfl) h1 ?_
   refine .exit ?_
   exact ⟨(n1,c1,q2),hm,(.k [0] [] [.tmp 5 false] [5] ⟨trF h0,trivial⟩)⟩
end
end Go.HzSM
