/- Made from wip. -/
import Derived.Test.YtkhedoaiejjcfaaSpSortKx
import Derived.Test.YtkhedoaiejjcfaaHvRCode
import Derived.KernelRfl

set_option maxRecDepth 100000
namespace Go.Sp
theorem Weak.cap (id off sz ln m:Nat):Weak (.slice (some ⟨id,off,some sz⟩) ln (2 * m + 1)) (.slice (some ⟨id,off,some sz⟩) ln (2 * m)):=fun R u h=>by
 have e1:(2 * m + 1) / 2 = m:=by omega
 have e2:2 * m / 2 = m:=by omega
 cases h with
 | sl h h1 h2 h3 h4 =>
  rw [e1] at h1 h2
  exact .sl h (by rw [e2];exact h1) (by rw [e2];exact h2) (fun h=>by omega) h4
 | slE h=>exact .slE (by omega)
 | slN h=>exact .slN (by omega)
end Go.Sp
namespace Go.HvRM
open Go.Sp Go.HvR
noncomputable section
def orc63 (args:List Value):Option Value:=
 ll args none fun a r => ll r none fun b r => ll r (oo (toSl 1 a) none fun s => oo (toI .i64 b) none fun z => oo (toN z) none fun k => ll s.cs none fun x r => ll r (oo (toI .i64 x) none fun y => bb (an (Nat.beq s.n 1) (Nat.ble k 21))
  (some (Sl.v 1 ⟨k,0,zeroRow [.int .i64 y] k⟩)) none) fun _ _=>none) fun _ _=>none
def orc53 (args:List Value):Option Value:=
 ll args none fun a r=>ll r (oo (toSl 1 a) none fun s=>ll s.cs none fun x r=>ll r none fun y r=>ll r (oo (toSl 1 x) none fun u=>oo (toSl 1 y) none fun v=>oo (mapO (toSl 1) u.cs) none fun us=>oo (mapO (toSl 1) v.cs) none fun vs=>
  bb (an (Nat.beq s.n 2) (an (Nat.beq s.fl 0) (an (Nat.beq u.fl 0) (an (Nat.beq v.fl 0) (an (Nat.beq u.n (len us)) (an (Nat.beq v.n (len vs)) (an (Nat.ble 1 (len us)) (Nat.ble (len us + len vs) 7))))))))
   (some (Sl.v 1 ⟨len us + len vs,0,appL u.cs v.cs⟩)) none) fun _ _=>none) fun _ _=>none
def orc5 (_:List Value):Option Value:=none
def orc8 (_:List Value):Option Value:=none
def orc26 (_:List Value):Option Value:=none
def identF (args:List Value) (H:AHeap):Option (Value×AHeap):=ll args none fun a r=>ll r (AHeap.rec (motive:=fun _=>Option (Value×AHeap)) (fun k T z=>bb z (some (a,⟨k,T,true⟩)) none) H) fun _ _=>none
theorem identEv (a:Value) (k:Nat) (T:Tr AObj):evFn tt fns 2 12 [a] ⟨k,T,true⟩ = some (a,⟨k,T,true⟩):=by kernel_rfl
theorem ident12_ok {P : Program} (hT : TOk P tt) (hf : ∀ f r, fns f = some r → FnOk P [] f r) (hm : P.follows .mixedOrders = true) {args : List Value} {H H' : AHeap} {v : Value} (h : identF args H = some (v, H')) :
 (∀ (as:Array Value) (w:World),(callFunc 12 as).run P w = .ok (.enter 12 as) w) ∧
 ∀ R w args',Sim H R w→GlR [] R→VRL R args args'→Calls P 12 ⟨args'⟩ w fun e w'=>∃ u R',e = .returned u∧VR R' v u∧Post H R w H' R' w':=by
 obtain ⟨a,r,rfl,h⟩:=ll_uncons h
 obtain ⟨rfl,h⟩:=ll_end h
 obtain ⟨k,T,z⟩:=H
 obtain ⟨hz,h⟩:=bb_inv (show bb z _ none = some _ from h)
 subst hz
 injection h with h
 injection h with h1 h2
 subst h1;subst h2
 exact (evFn_ok hT hf hm 2) 12 _ _ _ _ (identEv a k T)
end
end Go.HvRM
set_option maxRecDepth 100000
set_option maxHeartbeats 20000000
set_option linter.unusedVariables false
namespace Go.HvRM
open Go.Sp Go.HvR
noncomputable section
def tabs:List (List Value):=[]
theorem trF {a b:Bool} (h:b = true) (e:a = b:=by kernel_rfl):a = true:=e.trans h
abbrev OV:=Option Value
abbrev LV:=List Value
def plist:List Nat:=[3,4,5,6,7,8,9,10,21,23,24,25,26,27,28,29,30,31,32,33,42,43,44,45,47,48,49,54,56,57,58,62,77]
def isP:FuncId→Bool:=fun g=>memN g plist
def inl (pu:PureF):CallF:=fun g args H=>bb (Nat.beq g 12) (identF args H) (bb (Nat.beq g 46) (liveF tabs 1 (pu 46) args H) (bb (Nat.beq g 53) (giveF tabs 1 (pu 53) args H) (bb (Nat.beq g 63) (giveF tabs 1 (pu 63) args H) (none))))
def zA51:LV:=[(.int .i64 (0:Int)),(.int .i64 (0:Int)),(.int .i64 (0:Int)),(.int .i64 (0:Int)),(.int .i64 (0:Int)),(.int .i64 (0:Int)),(.int .i64 (0:Int)),(.int .i64 (0:Int)),(.int .i64 (0:Int)),(.int .i64 (0:Int)),(.int .i64 (0:Int)),(.int .i64 (0:Int)),(.int .i64 (0:Int)),(.int .i64 (0:Int)),(.int .i64 (0:Int)),(.int .i64 (0:Int)),(.int .i64 (0:Int)),(.int .i64 (0:Int)),(.int .i64 (0:Int)),(.int .i64 (0:Int)),(.int .i64 (0:Int)),(.int .i64 (0:Int))]
end
end Go.HvRM
set_option maxRecDepth 100000
set_option maxHeartbeats 20000000
set_option linter.unusedVariables false
namespace Go.HvRM
open Go.Sp Go.HvR
noncomputable section
def m3_4 (pu:PureF) (n:Nat):OV:=
 (oo (pu 5 []) none fun v0=>(oo (vBool v0) none fun b0=>(some (.bool b0))))
def b3_5 (pu:PureF) (n:Nat) (ih0:Sl→Sl→Int→OV) (s0 s1:Sl) (z0:Int):OV:=
 (bb (ilt z0 (Int.ofNat (Sl.n s0))) (oo (toN z0) none fun k1=>(bb (an (Nat.blt k1 (Sl.n s0)) true) (oo (nthL (Sl.cs s0) (k1 * 1)) none fun v0=>(oo (toSl 1 v0) none fun s2=>(bb (an (Nat.blt k1 (Sl.n s1)) true) (oo (nthL (Sl.cs s1) (k1 * 1)) none fun v1=>(oo (toSl 1 v1) none fun s3=>(oo (pu 10 [Sl.v 1 s2,Sl.v 1 s3]) none fun v2=>(oo (vBool v2) none fun b0=>(bb (nt b0) (some (.bool false)) (ih0 s0 s1 (wrapF .i64 (Int.add (Int.ofNat k1) (1:Int))))))))) none))) none)) (m3_4 pu n))
def l3_5 (pu:PureF) (n w:Nat):Sl→Sl→Int→OV:=
 Nat.rec (motive:=fun _=>Sl→Sl→Int→OV) (fun _ _ _=>none) (fun _ ih0=>b3_5 pu n ih0) w
def m3_3 (pu:PureF) (n:Nat) (s0 s1:Sl) (b0:Bool):OV:=
 (bb b0 (some (.bool false)) (l3_5 pu n n s0 s1 (0:Int)))
def m3_2 (pu:PureF) (n:Nat) (s53:Sl) (z54:Int) (b55:Bool):OV:=
 (bb b55 (oo (pu 5 []) none fun v61=>(oo (vBool v61) none fun b63=>(some (.bool b63)))) (oo (pu 6 [Sl.v 1 s53]) none fun v75=>(oo (vTup v75) none fun l77=>(ll l77 none fun v79 l77=>(ll l77 none fun v80 l77=>(ll l77 (oo (toI .i64 v79) none fun x81=>(oo (toI .i64 v80) none fun x83=>(oo (pu 7 [Sl.v 1 s53]) none fun v95=>(oo (vTup v95) none fun l97=>(ll l97 none fun v99 l97=>(ll l97 none fun v0 l97=>(ll l97 (oo (toI .i64 v99) none fun x0=>(oo (toI .i64 v0) none fun x1=>(oo (pu 8 [.int .i64 z54]) none fun v1=>(oo (vTup v1) none fun l0=>(ll l0 none fun v2 l0=>(ll l0 none fun v3 l0=>(ll l0 (oo (toSl 1 v2) none fun s0=>(oo (toI .i64 v3) none fun x2=>(oo (pu 9 [.int .i64 z54]) none fun v4=>(oo (vTup v4) none fun l1=>(ll l1 none fun v5 l1=>(ll l1 none fun v6 l1=>(ll l1 (oo (toSl 1 v5) none fun s1=>(oo (toI .i64 v6) none fun x3=>(bb (nt (ieq x81 x0)) (m3_3 pu n s0 s1 true) (bb (nt (ieq x83 x1)) (m3_3 pu n s0 s1 true) (bb (nt (ieq x2 x3)) (m3_3 pu n s0 s1 true) (m3_3 pu n s0 s1 (nt (ieq (Int.ofNat (Sl.n s0)) (Int.ofNat (Sl.n s1)))))))))) fun _ _=>none))))))) fun _ _=>none))))))) fun _ _=>none))))))) fun _ _=>none))))))
def m3_1 (pu:PureF) (n:Nat) (s48:Sl) (z49 z50:Int):OV:=
 (bb (ilt (14:Int) z50) (m3_2 pu n s48 z49 (nt (ilt (21:Int) z50))) (m3_2 pu n s48 z49 false))
def b3_6 (pu:PureF) (n:Nat) (ih0:Sl→Int→Int→Int→OV) (s0:Sl) (z0 z1 z2:Int):OV:=
 (bb (ilt z2 (Int.ofNat (Sl.n s0))) (oo (toN z2) none fun k1=>(bb (an (Nat.blt k1 (Sl.n s0)) true) (oo (nthL (Sl.cs s0) (k1 * 1)) none fun v0=>(oo (toI .i64 v0) none fun x0=>(ih0 s0 z0 (wrapF .i64 (Int.add z1 (bb (ilt (30:Int) (bb (ilt x0 (0:Int)) (0:Int) x0)) (30:Int) (bb (ilt x0 (0:Int)) (0:Int) x0)))) (wrapF .i64 (Int.add (Int.ofNat k1) (1:Int)))))) none)) (m3_1 pu n s0 z0 z1))
def l3_6 (pu:PureF) (n w:Nat):Sl→Int→Int→Int→OV:=
 Nat.rec (motive:=fun _=>Sl→Int→Int→Int→OV) (fun _ _ _ _=>none) (fun _ ih0=>b3_6 pu n ih0) w
def m3_0 (pu:PureF) (n:Nat) (s17:Sl) (z18:Int) (b19:Bool):OV:=
 (bb b19 (oo (pu 5 []) none fun v25=>(oo (vBool v25) none fun b27=>(some (.bool b27)))) (l3_6 pu n n s17 z18 (0:Int) (0:Int)))
def m3_ (pu:PureF) (n:Nat) (s1:Sl) (x3:Int):OV:=
 (oo (pu 4 [Sl.v 1 s1]) none fun v0=>(oo (vBool v0) none fun b0=>(bb b0 (m3_0 pu n s1 x3 true) (bb (ilt (14:Int) x3) (m3_0 pu n s1 x3 (nt (ilt (21:Int) x3))) (m3_0 pu n s1 x3 false)))))
def m3 (pu:PureF) (n:Nat) (args:LV):OV:=
 (ll args none fun a0 args=>(ll args none fun a1 args=>(ll args (oo (toSl 1 a0) none fun s1=>(oo (toI .i64 a1) none fun x3=>(m3_ pu n s1 x3))) fun _ _=>none)))
theorem w3_4 (pu:PureF) (n:Nat) {v:Value} (hm:m3_4 pu n = some v):Run tt (callP tabs isP pu (inl pu)) 0 c3_50 (fr 105 []) (hp 0 []) (Fin tt 0 [.tmp 4] v):=by
 unfold m3_4 at hm
 refine .then ?_
 replace hm:=oo_inv hm;obtain ⟨v0,h0,hm⟩:=hm
 replace hm:=inv_vBool hm;obtain ⟨b0,rfl,hm⟩:=hm
 refine .reg (eD ((oo (pu 5 []) none fun v=>some (v,(hp 0 [])))) (call_eq h0) (eE)) ?_
 refine .ghs (fr 105 [(4,zB b0)]) (hp 0 []) (.k0 [] [] [4]) ?_
 refine .ret ?_
 exact fin_ret (zB b0) (by kernel_rfl) (by kernel_rfl) hm
theorem w3_1 (pu:PureF) (n:Nat) (s48:Sl) (z49 z50:Int) {v:Value} (hm:m3_1 pu n s48 z49 z50 = some v):Run tt (callP tabs isP pu (inl pu)) 0 c3_57 (fr 105 [(0,Sl.v 1 s48),(1,zI z49),(5,zI z50)]) (hp 0 []) (Fin tt 0 [.tmp 4] v):=by
 unfold m3_1 at hm
 refine .then ?_
 refine .join (v:=v) (fun y:Sl×Int×Bool=>((fr 105 [(0,(Sl.v 1 y.1)),(1,(zI y.2.1)),(46,(zB y.2.2))]),(hp 0 []))) (fun y=>m3_2 pu n y.1 y.2.1 y.2.2) ?_ ?_
 ·rintro ⟨s53, z54, b55⟩ hm
  unfold m3_2 at hm
  replace hm:=bb_cases hm;rcases hm with ⟨h56,hm⟩ | ⟨h56,hm⟩
  ·refine .ifT b55 (by kernel_rfl) h56 ?_
   refine .then ?_
   replace hm:=oo_inv hm;obtain ⟨v61,h62,hm⟩:=hm
   replace hm:=inv_vBool hm;obtain ⟨b63,rfl,hm⟩:=hm
   refine .reg (eD ((oo (pu 5 []) none fun v=>some (v,(hp 0 [])))) (call_eq h62) (eE)) ?_
   refine .ghs (fr 105 [(4,zB b63)]) (hp 0 []) (.k0 [] [] [4]) ?_
   refine .ret ?_
   exact fin_ret (zB b63) (by kernel_rfl) (by kernel_rfl) hm
  ·refine .ifF b55 (by kernel_rfl) h56 ?_
   refine .skip ?_
   refine .ghs (fr 105 [(0,Sl.v 1 s53),(1,zI z54)]) (hp 0 []) (.k0 [] [] [0,1]) ?_
   refine .then ?_
   replace hm:=oo_inv hm;obtain ⟨v75,h76,hm⟩:=hm
   replace hm:=inv_vTup hm;obtain ⟨l77,rfl,hm⟩:=hm
   replace hm:=ll_uncons hm;obtain ⟨v79,l77_0,rfl,hm⟩:=hm
   replace hm:=ll_uncons hm;obtain ⟨v80,l77_1,rfl,hm⟩:=hm
   replace hm:=ll_end hm;obtain ⟨rfl,hm⟩:=hm
   replace hm:=inv_toI hm;obtain ⟨x81,rfl,hm⟩:=hm
   replace hm:=inv_toI hm;obtain ⟨x83,rfl,hm⟩:=hm
   refine .reg (eC 1 ((oo (pu 6 [Sl.v 1 s53]) none fun v=>some (v,(hp 0 [])))) (call_eq h76) (eE)) ?_
   refine .ghs (fr 105 [(0,Sl.v 1 s53),(1,zI z54),(7,zI x81),(8,zI x83)]) (hp 0 []) (.k0 [] [] [0,1,7,8]) ?_
   refine .then ?_
   replace hm:=oo_inv hm;obtain ⟨v95,h96,hm⟩:=hm
   replace hm:=inv_vTup hm;obtain ⟨l97,rfl,hm⟩:=hm
   replace hm:=ll_uncons hm;obtain ⟨v99,l97_0,rfl,hm⟩:=hm
   replace hm:=ll_uncons hm;obtain ⟨v0,l97_1,rfl,hm⟩:=hm
   replace hm:=ll_end hm;obtain ⟨rfl,hm⟩:=hm
   replace hm:=inv_toI hm;obtain ⟨x0,rfl,hm⟩:=hm
   replace hm:=inv_toI hm;obtain ⟨x1,rfl,hm⟩:=hm
   refine .reg (eC 1 ((oo (pu 7 [Sl.v 1 s53]) none fun v=>some (v,(hp 0 [])))) (call_eq h96) (eE)) ?_
   refine .ghs (fr 105 [(1,zI z54),(7,zI x81),(8,zI x83),(9,zI x0),(10,zI x1)]) (hp 0 []) (.k0 [] [] [1,7,8,9,10]) ?_
   refine .then ?_
   replace hm:=oo_inv hm;obtain ⟨v1,h0,hm⟩:=hm
   replace hm:=inv_vTup hm;obtain ⟨l0,rfl,hm⟩:=hm
   replace hm:=ll_uncons hm;obtain ⟨v2,l117_0,rfl,hm⟩:=hm
   replace hm:=ll_uncons hm;obtain ⟨v3,l117_1,rfl,hm⟩:=hm
   replace hm:=ll_end hm;obtain ⟨rfl,hm⟩:=hm
   replace hm:=inv_toSl hm;obtain ⟨s0,rfl,hm⟩:=hm
   replace hm:=inv_toI hm;obtain ⟨x2,rfl,hm⟩:=hm
   refine .reg (eC 1 ((oo (pu 8 [zI z54]) none fun v=>some (v,(hp 0 [])))) (call_eq h0) (eE)) ?_
   refine .ghs (fr 105 [(1,zI z54),(7,zI x81),(8,zI x83),(9,zI x0),(10,zI x1),(11,Sl.v 1 s0),(12,zI x2)]) (hp 0 []) (.k0 [] [] [1,7,8,9,10,11,12]) ?_
   refine .then ?_
   replace hm:=oo_inv hm;obtain ⟨v4,h1,hm⟩:=hm
   replace hm:=inv_vTup hm;obtain ⟨l1,rfl,hm⟩:=hm
   replace hm:=ll_uncons hm;obtain ⟨v5,l137_0,rfl,hm⟩:=hm
   replace hm:=ll_uncons hm;obtain ⟨v6,l137_1,rfl,hm⟩:=hm
   replace hm:=ll_end hm;obtain ⟨rfl,hm⟩:=hm
   replace hm:=inv_toSl hm;obtain ⟨s1,rfl,hm⟩:=hm
   replace hm:=inv_toI hm;obtain ⟨x3,rfl,hm⟩:=hm
   refine .reg (eC 1 ((oo (pu 9 [zI z54]) none fun v=>some (v,(hp 0 [])))) (call_eq h1) (eE)) ?_
   refine .ghs (fr 105 [(7,zI x81),(8,zI x83),(9,zI x0),(10,zI x1),(11,Sl.v 1 s0),(12,zI x2),(13,Sl.v 1 s1),(14,zI x3)]) (hp 0 []) (.k0 [] [] [7,8,9,10,11,12,13,14]) ?_
   refine .then ?_
   refine .join (v:=v) (fun y:Sl×Sl×Bool=>((fr 105 [(11,(Sl.v 1 y.1)),(13,(Sl.v 1 y.2.1)),(87,(zB y.2.2))]),(hp 0 []))) (fun y=>m3_3 pu n y.1 y.2.1 y.2.2) ?_ ?_
   ·rintro ⟨s2, s3, b0⟩ hm
    unfold m3_3 at hm
    replace hm:=bb_cases hm;rcases hm with ⟨h2,hm⟩ | ⟨h2,hm⟩
    ·refine .ifT b0 (by kernel_rfl) h2 ?_
     refine .then (.rK ?_)
     refine .ghs (fr 105 [(4,zB false)]) (hp 0 []) (.k0 [] [] [4]) ?_
     refine .ret ?_
     exact fin_ret (zB false) (by kernel_rfl) (by kernel_rfl) hm
    ·refine .ifF b0 (by kernel_rfl) h2 ?_
     refine .skip ?_
     refine .ghs (fr 105 [(11,Sl.v 1 s2),(13,Sl.v 1 s3)]) (hp 0 []) (.k0 [] [] [11,13]) ?_
     refine .join (v:=v) (fun y:Unit=>((fr 105 []),(hp 0 []))) (fun y=>m3_4 pu n) ?_ ?_
     ·rintro _ hm
      exact w3_4 pu n hm
     ·refine .then (.rK ?_)
      refine .ghs (fr 105 [(11,Sl.v 1 s2),(13,Sl.v 1 s3),(15,(zI (0:Int)))]) (hp 0 []) (.k0 [] [] [11,13,15]) ?_
      refine .block ?_
      refine .loopM (v:=v) (fun y:Sl×Sl×Int=>((fr 105 [(11,(Sl.v 1 y.1)),(13,(Sl.v 1 y.2.1)),(15,(zI y.2.2))]),(hp 0 []))) (fun w y=>l3_5 pu n w y.1 y.2.1 y.2.2) n ⟨(s2,s3,(0:Int)),hm,(.k0 [] [] [11,13,15])⟩ (fun _=>rfl) ?_
      rintro w0 ⟨s4,s5,z0⟩ hm
      replace hm:b3_5 pu n (l3_5 pu n w0) s4 s5 z0 = some v:=hm
      unfold b3_5 at hm
      refine .then ?_
      refine .then (.rK ?_)
      refine .ghs (fr 105 [(11,Sl.v 1 s4),(13,Sl.v 1 s5),(15,zI z0),(91,(zB (ilt z0 (Int.ofNat (Sl.n s4)))))]) (hp 0 []) (.k0 [] [] [11,13,15,91]) ?_
      replace hm:=bb_cases hm;rcases hm with ⟨h3,hm⟩ | ⟨h3,hm⟩
      ·refine .ifT (ilt z0 (Int.ofNat (Sl.n s4))) (by kernel_rfl) h3 ?_
       refine .skip ?_
       refine .ghs (fr 105 [(11,Sl.v 1 s4),(13,Sl.v 1 s5),(15,zI z0)]) (hp 0 []) (.k0 [] [] [11,13,15]) ?_
       refine .then ?_
       refine .block ?_
       refine .then ?_
       replace hm:=oo_inv hm;obtain ⟨k1,h4,hm⟩:=hm
       obtain rfl:=toN_some h4
       replace hm:=bb_inv hm;obtain ⟨h5,hm⟩:=hm
       replace hm:=oo_inv hm;obtain ⟨v7,h6,hm⟩:=hm
       replace hm:=inv_toSl hm;obtain ⟨s6,rfl,hm⟩:=hm
       replace hm:=bb_inv hm;obtain ⟨h7,hm⟩:=hm
       replace hm:=oo_inv hm;obtain ⟨v8,h8,hm⟩:=hm
       replace hm:=inv_toSl hm;obtain ⟨s7,rfl,hm⟩:=hm
       replace hm:=oo_inv hm;obtain ⟨v9,h9,hm⟩:=hm
       replace hm:=inv_vBool hm;obtain ⟨b1,rfl,hm⟩:=hm
       refine .reg (eC 2 (keep (hp 0 []) (bb (an (Nat.blt k1 (Sl.n s4)) true) (some (fpV (k1 * 1) (Sl.cs s4))) none)) (keep_bb h5) (eD (keep (hp 0 []) (nthL (Sl.cs s4) (k1 * 1))) (keep_eq h6) (eC 2 (keep (hp 0 []) (bb (an (Nat.blt k1 (Sl.n s5)) true) (some (fpV (k1 * 1) (Sl.cs s5))) none)) (keep_bb h7) (eD (keep (hp 0 []) (nthL (Sl.cs s5) (k1 * 1))) (keep_eq h8) (eD ((oo (pu 10 [Sl.v 1 s6,Sl.v 1 s7]) none fun v=>some (v,(hp 0 [])))) (call_eq h9) (eE)))))) ?_
       refine .ghs (fr 105 [(11,Sl.v 1 s4),(13,Sl.v 1 s5),(15,(zI (Int.ofNat k1))),(103,(zB (nt b1)))]) (hp 0 []) (.k0 [] [] [11,13,15,103]) ?_
       replace hm:=bb_cases hm;rcases hm with ⟨h10,hm⟩ | ⟨h10,hm⟩
       ·refine .ifT (nt b1) (by kernel_rfl) h10 ?_
        refine .then (.rK ?_)
        refine .ghs (fr 105 [(4,zB false)]) (hp 0 []) (.k0 [] [] [4]) ?_
        refine .ret ?_
        exact fin_ret (zB false) (by kernel_rfl) (by kernel_rfl) hm
       ·refine .ifF (nt b1) (by kernel_rfl) h10 ?_
        refine .skip ?_
        refine .ghs (fr 105 [(11,Sl.v 1 s4),(13,Sl.v 1 s5),(15,(zI (Int.ofNat k1)))]) (hp 0 []) (.k0 [] [] [11,13,15]) ?_
        refine .rK ?_
        exact ⟨(s4,s5,(wrapF .i64 (Int.add (Int.ofNat k1) (1:Int)))),hm,(.k0 [] [] [11,13,15])⟩
      ·refine .ifF (ilt z0 (Int.ofNat (Sl.n s4))) (by kernel_rfl) h3 ?_
       refine .exit ?_
       exact ⟨(),hm,(.k0 [] [] [])⟩
   ·replace hm := bb_cases hm; rcases hm with ⟨h11, hm⟩ | ⟨h11, hm⟩
    ·refine .reg (eC 2 (some ((zB (nt (ieq x81 x0))), (hp 0 []))) (show _ = some ((zB true), _) from (by rw [h11])) (eE)) ?_
     exact ⟨(s0,s1,true),hm,(.k0 [] [] [11,13,87])⟩
    ·replace hm := bb_cases hm; rcases hm with ⟨h12, hm⟩ | ⟨h12, hm⟩
     ·refine .reg (eC 2 (some ((zB (nt (ieq x81 x0))), (hp 0 []))) (show _ = some ((zB false), _) from (by rw [h11])) (eC 3 (some ((zB (nt (ieq x83 x1))), (hp 0 []))) (show _ = some ((zB true), _) from (by rw [h12])) (eE))) ?_
      exact ⟨(s0,s1,true),hm,(.k0 [] [] [11,13,87])⟩
     ·replace hm := bb_cases hm; rcases hm with ⟨h13, hm⟩ | ⟨h13, hm⟩
      ·refine .reg (eC 2 (some ((zB (nt (ieq x81 x0))), (hp 0 []))) (show _ = some ((zB false), _) from (by rw [h11])) (eC 3 (some ((zB (nt (ieq x83 x1))), (hp 0 []))) (show _ = some ((zB false), _) from (by rw [h12])) (eC 4 (some ((zB (nt (ieq x2 x3))), (hp 0 []))) (show _ = some ((zB true), _) from (by rw [h13])) (eE)))) ?_
       exact ⟨(s0,s1,true),hm,(.k0 [] [] [11,13,87])⟩
      ·refine .reg (eC 2 (some ((zB (nt (ieq x81 x0))), (hp 0 []))) (show _ = some ((zB false), _) from (by rw [h11])) (eC 3 (some ((zB (nt (ieq x83 x1))), (hp 0 []))) (show _ = some ((zB false), _) from (by rw [h12])) (eC 4 (some ((zB (nt (ieq x2 x3))), (hp 0 []))) (show _ = some ((zB false), _) from (by rw [h13])) (eE)))) ?_
       exact ⟨(s0,s1,(nt (ieq (Int.ofNat (Sl.n s0)) (Int.ofNat (Sl.n s1))))),hm,(.k0 [] [] [11,13,87])⟩
 ·replace hm := bb_cases hm; rcases hm with ⟨h14, hm⟩ | ⟨h14, hm⟩
  ·refine .reg (eC 1 (some ((zB (ilt (14 : Int) z50)), (hp 0 []))) (show _ = some ((zB true), _) from (by rw [h14])) (eE)) ?_
   exact ⟨(s48,z49,(nt (ilt (21:Int) z50))),hm,(.k0 [] [] [0,1,46])⟩
  ·refine .reg (eC 1 (some ((zB (ilt (14 : Int) z50)), (hp 0 []))) (show _ = some ((zB false), _) from (by rw [h14])) (eE)) ?_
   exact ⟨(s48,z49,false),hm,(.k0 [] [] [0,1,46])⟩
theorem r3 {call:CallF} (pu:PureF) (n:Nat) (hcall:call = callP tabs isP pu (inl pu)) {args:LV} {v:Value} (hm:m3 pu n args = some v) (_:∀ x ∈ args,closed2 x = true):args.length≤105∧Run tt call 0 c3_61 (Fr.made 105 args) (pureHeap tabs) (Fin tt 0 [.tmp 4] v):=by
 subst hcall
 unfold m3 at hm
 replace hm:=ll_uncons hm;obtain ⟨a0,args_0,rfl,hm⟩:=hm
 replace hm:=ll_uncons hm;obtain ⟨a1,args_1,rfl,hm⟩:=hm
 replace hm:=ll_end hm;obtain ⟨rfl,hm⟩:=hm
 replace hm:=inv_toSl hm;obtain ⟨s1,rfl,hm⟩:=hm
 replace hm:=inv_toI hm;obtain ⟨x3,rfl,hm⟩:=hm
 unfold m3_ at hm
 refine ⟨by simp,?_⟩
 refine .same (F':=(fr 105 [(0,Sl.v 1 s1),(1,zI x3)])) (H':=(hp 0 [])) (by kernel_rfl) (by kernel_rfl) ?_
 refine .then (.rK ?_)
 refine .ghs (fr 105 [(0,Sl.v 1 s1),(1,zI x3)]) (hp 0 []) (.k0 [] [] [0,1]) ?_
 refine .then ?_
 refine .join (v:=v) (fun y:Sl×Int×Bool=>((fr 105 [(0,(Sl.v 1 y.1)),(1,(zI y.2.1)),(25,(zB y.2.2))]),(hp 0 []))) (fun y=>m3_0 pu n y.1 y.2.1 y.2.2) ?_ ?_
 ·rintro ⟨s17, z18, b19⟩ hm
  unfold m3_0 at hm
  replace hm:=bb_cases hm;rcases hm with ⟨h20,hm⟩ | ⟨h20,hm⟩
  ·refine .ifT b19 (by kernel_rfl) h20 ?_
   refine .then ?_
   replace hm:=oo_inv hm;obtain ⟨v25,h26,hm⟩:=hm
   replace hm:=inv_vBool hm;obtain ⟨b27,rfl,hm⟩:=hm
   refine .reg (eD ((oo (pu 5 []) none fun v=>some (v,(hp 0 [])))) (call_eq h26) (eE)) ?_
   refine .ghs (fr 105 [(4,zB b27)]) (hp 0 []) (.k0 [] [] [4]) ?_
   refine .ret ?_
   exact fin_ret (zB b27) (by kernel_rfl) (by kernel_rfl) hm
  ·refine .ifF b19 (by kernel_rfl) h20 ?_
   refine .skip ?_
   refine .ghs (fr 105 [(0,Sl.v 1 s17),(1,zI z18)]) (hp 0 []) (.k0 [] [] [0,1]) ?_
   refine .then (.rK ?_)
   refine .ghs (fr 105 [(0,Sl.v 1 s17),(1,zI z18),(5,(zI (0:Int)))]) (hp 0 []) (.k0 [] [] [0,1,5]) ?_
   refine .join (v:=v) (fun y:Sl×Int×Int=>((fr 105 [(0,(Sl.v 1 y.1)),(1,(zI y.2.1)),(5,(zI y.2.2))]),(hp 0 []))) (fun y=>m3_1 pu n y.1 y.2.1 y.2.2) ?_ ?_
   ·rintro ⟨s48, z49, z50⟩ hm
    exact w3_1 pu n s48 z49 z50 hm
   ·refine .then (.rK ?_)
    refine .ghs (fr 105 [(0,Sl.v 1 s17),(1,zI z18),(5,(zI (0:Int))),(6,(zI (0:Int)))]) (hp 0 []) (.k0 [] [] [0,1,5,6]) ?_
    refine .block ?_
    refine .loopM (v:=v) (fun y:Sl×Int×Int×Int=>((fr 105 [(0,(Sl.v 1 y.1)),(1,(zI y.2.1)),(5,(zI y.2.2.1)),(6,(zI y.2.2.2))]),(hp 0 []))) (fun w y=>l3_6 pu n w y.1 y.2.1 y.2.2.1 y.2.2.2) n ⟨(s17,z18,(0:Int),(0:Int)),hm,(.k0 [] [] [0,1,5,6])⟩ (fun _=>rfl) ?_
    rintro w0 ⟨s0,z0,z1,z2⟩ hm
    replace hm:b3_6 pu n (l3_6 pu n w0) s0 z0 z1 z2 = some v:=hm
    unfold b3_6 at hm
    refine .then ?_
    refine .then (.rK ?_)
    refine .ghs (fr 105 [(0,Sl.v 1 s0),(1,zI z0),(5,zI z1),(6,zI z2),(30,(zB (ilt z2 (Int.ofNat (Sl.n s0)))))]) (hp 0 []) (.k0 [] [] [0,1,5,6,30]) ?_
    replace hm:=bb_cases hm;rcases hm with ⟨h0,hm⟩ | ⟨h0,hm⟩
    ·refine .ifT (ilt z2 (Int.ofNat (Sl.n s0))) (by kernel_rfl) h0 ?_
     refine .skip ?_
     refine .ghs (fr 105 [(0,Sl.v 1 s0),(1,zI z0),(5,zI z1),(6,zI z2)]) (hp 0 []) (.k0 [] [] [0,1,5,6]) ?_
     refine .then ?_
     refine .block ?_
     replace hm:=oo_inv hm;obtain ⟨k1,h1,hm⟩:=hm
     obtain rfl:=toN_some h1
     replace hm:=bb_inv hm;obtain ⟨h2,hm⟩:=hm
     replace hm:=oo_inv hm;obtain ⟨v0,h3,hm⟩:=hm
     replace hm:=inv_toI hm;obtain ⟨x0,rfl,hm⟩:=hm
     refine .reg (eC 3 (keep (hp 0 []) (bb (an (Nat.blt k1 (Sl.n s0)) true) (some (fpV (k1 * 1) (Sl.cs s0))) none)) (keep_bb h2) (eD (keep (hp 0 []) (nthL (Sl.cs s0) (k1 * 1))) (keep_eq h3) (eE))) ?_
     refine .ghs (fr 105 [(0,Sl.v 1 s0),(1,zI z0),(5,(zI (wrapF .i64 (Int.add z1 (bb (ilt (30:Int) (bb (ilt x0 (0:Int)) (0:Int) x0)) (30:Int) (bb (ilt x0 (0:Int)) (0:Int) x0)))))),(6,(zI (Int.ofNat k1)))]) (hp 0 []) (.k0 [] [] [0,1,5,6]) ?_
     refine .rK ?_
     exact ⟨(s0,z0,(wrapF .i64 (Int.add z1 (bb (ilt (30:Int) (bb (ilt x0 (0:Int)) (0:Int) x0)) (30:Int) (bb (ilt x0 (0:Int)) (0:Int) x0)))),(wrapF .i64 (Int.add (Int.ofNat k1) (1:Int)))),hm,(.k0 [] [] [0,1,5,6])⟩
    ·refine .ifF (ilt z2 (Int.ofNat (Sl.n s0))) (by kernel_rfl) h0 ?_
     refine .exit ?_
     exact ⟨(s0,z0,z1),hm,(.k0 [] [] [0,1,5])⟩
 ·replace hm := oo_inv hm; obtain ⟨v1, h4, hm⟩ := hm
  replace hm:=inv_vBool hm;obtain ⟨b0,rfl,hm⟩:=hm
  replace hm:=bb_cases hm;rcases hm with ⟨h5,hm⟩ | ⟨h5,hm⟩
  ·refine .reg (eC 1 ((oo (pu 4 [Sl.v 1 s1]) none fun v => some (v, (hp 0 [])))) (show _ = some ((zB true), _) from (by have hz : (oo (pu 4 [Sl.v 1 s1]) none fun v => some (v, (hp 0 []))) = some ((zB b0), (hp 0 [])) := (call_eq h4); rw [h5] at hz; exact hz)) (eE)) ?_
   exact ⟨(s1,x3,true),hm,(.k0 [] [] [0,1,25])⟩
  ·replace hm := bb_cases hm; rcases hm with ⟨h6, hm⟩ | ⟨h6, hm⟩
   ·refine .reg (eC 1 ((oo (pu 4 [Sl.v 1 s1]) none fun v => some (v, (hp 0 [])))) (show _ = some ((zB false), _) from (by have hz : (oo (pu 4 [Sl.v 1 s1]) none fun v => some (v, (hp 0 []))) = some ((zB b0), (hp 0 [])) := (call_eq h4); rw [h5] at hz; exact hz)) (eC 2 (some ((zB (ilt (14 : Int) x3)), (hp 0 []))) (show _ = some ((zB true), _) from (by rw [h6])) (eE))) ?_
    exact ⟨(s1,x3,(nt (ilt (21:Int) x3))),hm,(.k0 [] [] [0,1,25])⟩
   ·refine .reg (eC 1 ((oo (pu 4 [Sl.v 1 s1]) none fun v => some (v, (hp 0 [])))) (show _ = some ((zB false), _) from (by have hz : (oo (pu 4 [Sl.v 1 s1]) none fun v => some (v, (hp 0 []))) = some ((zB b0), (hp 0 [])) := (call_eq h4); rw [h5] at hz; exact hz)) (eC 2 (some ((zB (ilt (14 : Int) x3)), (hp 0 []))) (show _ = some ((zB false), _) from (by rw [h6])) (eE))) ?_
    exact ⟨(s1,x3,false),hm,(.k0 [] [] [0,1,25])⟩

def m4_ (pu:PureF) (n:Nat) (s0:Sl):OV:=
 (some (.bool (ilt (60:Int) (Int.ofNat (Sl.n s0)))))
def m4 (pu:PureF) (n:Nat) (args:LV):OV:=
 (ll args none fun a0 args=>(ll args (oo (toSl 1 a0) none fun s0=>(m4_ pu n s0)) fun _ _=>none))
theorem r4 {call:CallF} (pu:PureF) (n:Nat) (hcall:call = callP tabs isP pu (inl pu)) {args:LV} {v:Value} (hm:m4 pu n args = some v) (_:∀ x ∈ args,closed2 x = true):args.length≤6∧Run tt call 0 c4_3 (Fr.made 6 args) (pureHeap tabs) (Fin tt 0 [.tmp 2] v):=by
 subst hcall
 unfold m4 at hm
 replace hm:=ll_uncons hm;obtain ⟨a0,args_0,rfl,hm⟩:=hm
 replace hm:=ll_end hm;obtain ⟨rfl,hm⟩:=hm
 replace hm:=inv_toSl hm;obtain ⟨s0,rfl,hm⟩:=hm
 unfold m4_ at hm
 refine ⟨by simp,?_⟩
 refine .same (F':=(fr 6 [(0,Sl.v 1 s0)])) (H':=(hp 0 [])) (by kernel_rfl) (by kernel_rfl) ?_
 refine .then (.rK ?_)
 refine .ghs (fr 6 [(0,Sl.v 1 s0)]) (hp 0 []) (.k0 [] [] [0]) ?_
 refine .then (.rK ?_)
 refine .ghs (fr 6 [(2,(zB (ilt (60:Int) (Int.ofNat (Sl.n s0)))))]) (hp 0 []) (.k0 [] [] [2]) ?_
 refine .ret ?_
 exact fin_ret (zB (ilt (60:Int) (Int.ofNat (Sl.n s0)))) (by kernel_rfl) (by kernel_rfl) hm
def m6_1 (pu:PureF) (n:Nat) (e0:List Ent) (k1:Nat):OV:=
 (some (.tuple ⟨[(.int .i64 (Int.ofNat (len e0))),(.int .i64 (0:Int))]⟩))
def m6_3 (pu:PureF) (n:Nat) (ih0:Nat→Nat→Nat→List Ent→Nat→LV→OV) (n0 n1 c0:Nat) (e0:List Ent) (k1:Nat) (q1:LV):OV:=
 (bb (Nat.ble 1 n1) (bb (allL entClosed e0) (bb (allL closed1 q1) (ih0 (n0 + 1 * 22) (n1 - 1) (2 * (c0 / 2 - 1) + bb (orr false (Nat.beq (c0 % 2) 1)) 1 0) e0 k1 q1) none) none) none)
def m6_5 (pu:PureF) (n:Nat) (ih0:Nat→Nat→Nat→List Ent→Nat→LV→OV) (ih1:Nat→Nat→Nat→Sl→Int→Int→List Ent→Nat→LV→OV) (n0 n1 c0:Nat) (s0:Sl) (z0 z1:Int) (e0:List Ent) (k1:Nat) (q1:LV):OV:=
 (bb (allL entClosed e0) (bb (allL closed1 q1) (ih1 n0 n1 c0 s0 z0 (wrapF .i64 (Int.add z1 (1:Int))) e0 k1 q1) none) none)
def b6_4 (pu:PureF) (n:Nat) (ih0:Nat→Nat→Nat→List Ent→Nat→LV→OV) (ih1:Nat→Nat→Nat→Sl→Int→Int→List Ent→Nat→LV→OV) (n0 n1 c0:Nat) (s0:Sl) (z0 z1:Int) (e0:List Ent) (k1:Nat) (q1:LV):OV:=
 (bb (allL entClosed e0) (bb (allL closed1 q1) (bb (ilt z1 z0) (oo (toN z1) none fun k2=>(bb (an (Nat.blt k2 (Sl.n s0)) true) (oo (nthL (Sl.cs s0) (k2 * 1)) none fun v0=>(oo (toSl 1 v0) none fun s1=>(oo (pu 24 [Sl.v 1 s1]) none fun v1=>(oo (vAgg v1) none fun l0=>(ll l0 none fun v2 l0=>(ll l0 none fun v3 l0=>(ll l0 none fun v4 l0=>(ll l0 none fun v5 l0=>(ll l0 none fun v6 l0=>(ll l0 none fun v7 l0=>(ll l0 none fun v8 l0=>(ll l0 none fun v9 l0=>(ll l0 none fun v10 l0=>(ll l0 none fun v11 l0=>(ll l0 none fun v12 l0=>(ll l0 none fun v13 l0=>(ll l0 none fun v14 l0=>(ll l0 none fun v15 l0=>(ll l0 none fun v16 l0=>(ll l0 none fun v17 l0=>(ll l0 none fun v18 l0=>(ll l0 none fun v19 l0=>(ll l0 none fun v20 l0=>(ll l0 none fun v21 l0=>(ll l0 none fun v22 l0=>(ll l0 none fun v23 l0=>(ll l0 (oo (toI .i64 v2) none fun x0=>(oo (toI .i64 v3) none fun x1=>(oo (toI .i64 v4) none fun x2=>(oo (toI .i64 v5) none fun x3=>(oo (toI .i64 v6) none fun x4=>(oo (toI .i64 v7) none fun x5=>(oo (toI .i64 v8) none fun x6=>(oo (toI .i64 v9) none fun x7=>(oo (toI .i64 v10) none fun x8=>(oo (toI .i64 v11) none fun x9=>(oo (toI .i64 v12) none fun x10=>(oo (toI .i64 v13) none fun x11=>(oo (toI .i64 v14) none fun x12=>(oo (toI .i64 v15) none fun x13=>(oo (toI .i64 v16) none fun x14=>(oo (toI .i64 v17) none fun x15=>(oo (toI .i64 v18) none fun x16=>(oo (toI .i64 v19) none fun x17=>(oo (toI .i64 v20) none fun x18=>(oo (toI .i64 v21) none fun x19=>(oo (toI .i64 v22) none fun x20=>(oo (toI .i64 v23) none fun x21=>(oo (findE (.agg ⟨[.int .i64 x0,.int .i64 x1,.int .i64 x2,.int .i64 x3,.int .i64 x4,.int .i64 x5,.int .i64 x6,.int .i64 x7,.int .i64 x8,.int .i64 x9,.int .i64 x10,.int .i64 x11,.int .i64 x12,.int .i64 x13,.int .i64 x14,.int .i64 x15,.int .i64 x16,.int .i64 x17,.int .i64 x18,.int .i64 x19,.int .i64 x20,.int .i64 x21]⟩) e0 0) none fun r0=>(oo (vBool (getE r0 (.bool false))) none fun b0=>(bb (nt b0) (oo (findE (.agg ⟨[.int .i64 x0,.int .i64 x1,.int .i64 x2,.int .i64 x3,.int .i64 x4,.int .i64 x5,.int .i64 x6,.int .i64 x7,.int .i64 x8,.int .i64 x9,.int .i64 x10,.int .i64 x11,.int .i64 x12,.int .i64 x13,.int .i64 x14,.int .i64 x15,.int .i64 x16,.int .i64 x17,.int .i64 x18,.int .i64 x19,.int .i64 x20,.int .i64 x21]⟩) e0 0) none fun r1=>(bb (allL entClosed (updE (.agg ⟨[.int .i64 x0,.int .i64 x1,.int .i64 x2,.int .i64 x3,.int .i64 x4,.int .i64 x5,.int .i64 x6,.int .i64 x7,.int .i64 x8,.int .i64 x9,.int .i64 x10,.int .i64 x11,.int .i64 x12,.int .i64 x13,.int .i64 x14,.int .i64 x15,.int .i64 x16,.int .i64 x17,.int .i64 x18,.int .i64 x19,.int .i64 x20,.int .i64 x21]⟩) (.bool true) k1 e0 r1)) (bb (growC2 22 176 n0 n1 c0 1 q1) (bb (allL closed1 (appL (dropL n0 q1) [.int .i64 x0,.int .i64 x1,.int .i64 x2,.int .i64 x3,.int .i64 x4,.int .i64 x5,.int .i64 x6,.int .i64 x7,.int .i64 x8,.int .i64 x9,.int .i64 x10,.int .i64 x11,.int .i64 x12,.int .i64 x13,.int .i64 x14,.int .i64 x15,.int .i64 x16,.int .i64 x17,.int .i64 x18,.int .i64 x19,.int .i64 x20,.int .i64 x21])) (m6_5 pu n ih0 ih1 0 (n1 + 1) (2 * (n1 + 1) + bb false 1 0) s0 z0 (Int.ofNat k2) (updE (.agg ⟨[.int .i64 x0,.int .i64 x1,.int .i64 x2,.int .i64 x3,.int .i64 x4,.int .i64 x5,.int .i64 x6,.int .i64 x7,.int .i64 x8,.int .i64 x9,.int .i64 x10,.int .i64 x11,.int .i64 x12,.int .i64 x13,.int .i64 x14,.int .i64 x15,.int .i64 x16,.int .i64 x17,.int .i64 x18,.int .i64 x19,.int .i64 x20,.int .i64 x21]⟩) (.bool true) k1 e0 r1) (updC k1 r1) (appL (dropL n0 q1) [.int .i64 x0,.int .i64 x1,.int .i64 x2,.int .i64 x3,.int .i64 x4,.int .i64 x5,.int .i64 x6,.int .i64 x7,.int .i64 x8,.int .i64 x9,.int .i64 x10,.int .i64 x11,.int .i64 x12,.int .i64 x13,.int .i64 x14,.int .i64 x15,.int .i64 x16,.int .i64 x17,.int .i64 x18,.int .i64 x19,.int .i64 x20,.int .i64 x21])) none) none) none)) (m6_5 pu n ih0 ih1 n0 n1 c0 s0 z0 (Int.ofNat k2) e0 k1 q1)))))))))))))))))))))))))) fun _ _=>none))))))))))))))))))))))))))) none)) (m6_3 pu n ih0 n0 n1 c0 e0 k1 q1)) none) none)
def l6_4 (pu:PureF) (n:Nat) (ih0:Nat→Nat→Nat→List Ent→Nat→LV→OV) (w:Nat):Nat→Nat→Nat→Sl→Int→Int→List Ent→Nat→LV→OV:=
 Nat.rec (motive:=fun _=>Nat→Nat→Nat→Sl→Int→Int→List Ent→Nat→LV→OV) (fun _ _ _ _ _ _ _ _ _=>none) (fun _ ih1=>b6_4 pu n ih0 ih1) w
def b6_2 (pu:PureF) (n:Nat) (ih0:Nat→Nat→Nat→List Ent→Nat→LV→OV) (n0 n1 c0:Nat) (e0:List Ent) (k1:Nat) (q1:LV):OV:=
 (bb (allL entClosed e0) (bb (allL closed1 q1) (bb (ilt (0:Int) (Int.ofNat n1)) (bb (an (Nat.blt 0 n1) true) (bb (Nat.ble ((n0 + 0 * 22) + 22) (len q1)) (oo (nthL q1 (n0 + 0 * 22)) none fun v0=>(oo (toI .i64 v0) none fun x0=>(oo (nthL q1 ((n0 + 0 * 22) + 1)) none fun v1=>(oo (toI .i64 v1) none fun x1=>(oo (nthL q1 (((n0 + 0 * 22) + 1) + 1)) none fun v2=>(oo (toI .i64 v2) none fun x2=>(oo (nthL q1 ((((n0 + 0 * 22) + 1) + 1) + 1)) none fun v3=>(oo (toI .i64 v3) none fun x3=>(oo (nthL q1 (((((n0 + 0 * 22) + 1) + 1) + 1) + 1)) none fun v4=>(oo (toI .i64 v4) none fun x4=>(oo (nthL q1 ((((((n0 + 0 * 22) + 1) + 1) + 1) + 1) + 1)) none fun v5=>(oo (toI .i64 v5) none fun x5=>(oo (nthL q1 (((((((n0 + 0 * 22) + 1) + 1) + 1) + 1) + 1) + 1)) none fun v6=>(oo (toI .i64 v6) none fun x6=>(oo (nthL q1 ((((((((n0 + 0 * 22) + 1) + 1) + 1) + 1) + 1) + 1) + 1)) none fun v7=>(oo (toI .i64 v7) none fun x7=>(oo (nthL q1 (((((((((n0 + 0 * 22) + 1) + 1) + 1) + 1) + 1) + 1) + 1) + 1)) none fun v8=>(oo (toI .i64 v8) none fun x8=>(oo (nthL q1 ((((((((((n0 + 0 * 22) + 1) + 1) + 1) + 1) + 1) + 1) + 1) + 1) + 1)) none fun v9=>(oo (toI .i64 v9) none fun x9=>(oo (nthL q1 (((((((((((n0 + 0 * 22) + 1) + 1) + 1) + 1) + 1) + 1) + 1) + 1) + 1) + 1)) none fun v10=>(oo (toI .i64 v10) none fun x10=>(oo (nthL q1 ((((((((((((n0 + 0 * 22) + 1) + 1) + 1) + 1) + 1) + 1) + 1) + 1) + 1) + 1) + 1)) none fun v11=>(oo (toI .i64 v11) none fun x11=>(oo (nthL q1 (((((((((((((n0 + 0 * 22) + 1) + 1) + 1) + 1) + 1) + 1) + 1) + 1) + 1) + 1) + 1) + 1)) none fun v12=>(oo (toI .i64 v12) none fun x12=>(oo (nthL q1 ((((((((((((((n0 + 0 * 22) + 1) + 1) + 1) + 1) + 1) + 1) + 1) + 1) + 1) + 1) + 1) + 1) + 1)) none fun v13=>(oo (toI .i64 v13) none fun x13=>(oo (nthL q1 (((((((((((((((n0 + 0 * 22) + 1) + 1) + 1) + 1) + 1) + 1) + 1) + 1) + 1) + 1) + 1) + 1) + 1) + 1)) none fun v14=>(oo (toI .i64 v14) none fun x14=>(oo (nthL q1 ((((((((((((((((n0 + 0 * 22) + 1) + 1) + 1) + 1) + 1) + 1) + 1) + 1) + 1) + 1) + 1) + 1) + 1) + 1) + 1)) none fun v15=>(oo (toI .i64 v15) none fun x15=>(oo (nthL q1 (((((((((((((((((n0 + 0 * 22) + 1) + 1) + 1) + 1) + 1) + 1) + 1) + 1) + 1) + 1) + 1) + 1) + 1) + 1) + 1) + 1)) none fun v16=>(oo (toI .i64 v16) none fun x16=>(oo (nthL q1 ((((((((((((((((((n0 + 0 * 22) + 1) + 1) + 1) + 1) + 1) + 1) + 1) + 1) + 1) + 1) + 1) + 1) + 1) + 1) + 1) + 1) + 1)) none fun v17=>(oo (toI .i64 v17) none fun x17=>(oo (nthL q1 (((((((((((((((((((n0 + 0 * 22) + 1) + 1) + 1) + 1) + 1) + 1) + 1) + 1) + 1) + 1) + 1) + 1) + 1) + 1) + 1) + 1) + 1) + 1)) none fun v18=>(oo (toI .i64 v18) none fun x18=>(oo (nthL q1 ((((((((((((((((((((n0 + 0 * 22) + 1) + 1) + 1) + 1) + 1) + 1) + 1) + 1) + 1) + 1) + 1) + 1) + 1) + 1) + 1) + 1) + 1) + 1) + 1)) none fun v19=>(oo (toI .i64 v19) none fun x19=>(oo (nthL q1 (((((((((((((((((((((n0 + 0 * 22) + 1) + 1) + 1) + 1) + 1) + 1) + 1) + 1) + 1) + 1) + 1) + 1) + 1) + 1) + 1) + 1) + 1) + 1) + 1) + 1)) none fun v20=>(oo (toI .i64 v20) none fun x20=>(oo (nthL q1 ((((((((((((((((((((((n0 + 0 * 22) + 1) + 1) + 1) + 1) + 1) + 1) + 1) + 1) + 1) + 1) + 1) + 1) + 1) + 1) + 1) + 1) + 1) + 1) + 1) + 1) + 1)) none fun v21=>(oo (toI .i64 v21) none fun x21=>(oo (pu 26 [(.agg ⟨[.int .i64 x0,.int .i64 x1,.int .i64 x2,.int .i64 x3,.int .i64 x4,.int .i64 x5,.int .i64 x6,.int .i64 x7,.int .i64 x8,.int .i64 x9,.int .i64 x10,.int .i64 x11,.int .i64 x12,.int .i64 x13,.int .i64 x14,.int .i64 x15,.int .i64 x16,.int .i64 x17,.int .i64 x18,.int .i64 x19,.int .i64 x20,.int .i64 x21]⟩)]) none fun v22=>(oo (toSl 1 v22) none fun s0=>(l6_4 pu n ih0 n n0 n1 c0 s0 (Int.ofNat (Sl.n s0)) (0:Int) e0 k1 q1))))))))))))))))))))))))))))))))))))))))))))))) none) none) (m6_1 pu n e0 k1)) none) none)
def l6_2 (pu:PureF) (n w:Nat):Nat→Nat→Nat→List Ent→Nat→LV→OV:=
 Nat.rec (motive:=fun _=>Nat→Nat→Nat→List Ent→Nat→LV→OV) (fun _ _ _ _ _ _=>none) (fun _ ih0=>b6_2 pu n ih0) w
def m6_0 (pu:PureF) (n n0 c0:Nat) (e0:List Ent) (k1:Nat) (q1:LV):OV:=
 (bb (allL entClosed e0) (bb (allL closed1 q1) (l6_2 pu n n 0 n0 c0 e0 k1 q1) none) none)
def b6_6 (pu:PureF) (n:Nat) (ih0:Nat→Nat→Sl→Int→Int→List Ent→Nat→LV→OV) (n0 c0:Nat) (s0:Sl) (z0 z1:Int) (e0:List Ent) (k1:Nat) (q1:LV):OV:=
 (bb (allL entClosed e0) (bb (allL closed1 q1) (bb (ilt z1 z0) (oo (toN z1) none fun k2=>(bb (an (Nat.blt k2 (Sl.n s0)) true) (oo (nthL (Sl.cs s0) (k2 * 1)) none fun v0=>(oo (toSl 1 v0) none fun s1=>(oo (pu 24 [Sl.v 1 s1]) none fun v1=>(oo (vAgg v1) none fun l0=>(ll l0 none fun v2 l0=>(ll l0 none fun v3 l0=>(ll l0 none fun v4 l0=>(ll l0 none fun v5 l0=>(ll l0 none fun v6 l0=>(ll l0 none fun v7 l0=>(ll l0 none fun v8 l0=>(ll l0 none fun v9 l0=>(ll l0 none fun v10 l0=>(ll l0 none fun v11 l0=>(ll l0 none fun v12 l0=>(ll l0 none fun v13 l0=>(ll l0 none fun v14 l0=>(ll l0 none fun v15 l0=>(ll l0 none fun v16 l0=>(ll l0 none fun v17 l0=>(ll l0 none fun v18 l0=>(ll l0 none fun v19 l0=>(ll l0 none fun v20 l0=>(ll l0 none fun v21 l0=>(ll l0 none fun v22 l0=>(ll l0 none fun v23 l0=>(ll l0 (oo (toI .i64 v2) none fun x0=>(oo (toI .i64 v3) none fun x1=>(oo (toI .i64 v4) none fun x2=>(oo (toI .i64 v5) none fun x3=>(oo (toI .i64 v6) none fun x4=>(oo (toI .i64 v7) none fun x5=>(oo (toI .i64 v8) none fun x6=>(oo (toI .i64 v9) none fun x7=>(oo (toI .i64 v10) none fun x8=>(oo (toI .i64 v11) none fun x9=>(oo (toI .i64 v12) none fun x10=>(oo (toI .i64 v13) none fun x11=>(oo (toI .i64 v14) none fun x12=>(oo (toI .i64 v15) none fun x13=>(oo (toI .i64 v16) none fun x14=>(oo (toI .i64 v17) none fun x15=>(oo (toI .i64 v18) none fun x16=>(oo (toI .i64 v19) none fun x17=>(oo (toI .i64 v20) none fun x18=>(oo (toI .i64 v21) none fun x19=>(oo (toI .i64 v22) none fun x20=>(oo (toI .i64 v23) none fun x21=>(oo (findE (.agg ⟨[.int .i64 x0,.int .i64 x1,.int .i64 x2,.int .i64 x3,.int .i64 x4,.int .i64 x5,.int .i64 x6,.int .i64 x7,.int .i64 x8,.int .i64 x9,.int .i64 x10,.int .i64 x11,.int .i64 x12,.int .i64 x13,.int .i64 x14,.int .i64 x15,.int .i64 x16,.int .i64 x17,.int .i64 x18,.int .i64 x19,.int .i64 x20,.int .i64 x21]⟩) e0 0) none fun r0=>(bb (allL entClosed (updE (.agg ⟨[.int .i64 x0,.int .i64 x1,.int .i64 x2,.int .i64 x3,.int .i64 x4,.int .i64 x5,.int .i64 x6,.int .i64 x7,.int .i64 x8,.int .i64 x9,.int .i64 x10,.int .i64 x11,.int .i64 x12,.int .i64 x13,.int .i64 x14,.int .i64 x15,.int .i64 x16,.int .i64 x17,.int .i64 x18,.int .i64 x19,.int .i64 x20,.int .i64 x21]⟩) (.bool true) k1 e0 r0)) (bb (growC 22 176 n0 c0 1 q1) (bb (allL closed1 (appL (dropL 0 q1) [.int .i64 x0,.int .i64 x1,.int .i64 x2,.int .i64 x3,.int .i64 x4,.int .i64 x5,.int .i64 x6,.int .i64 x7,.int .i64 x8,.int .i64 x9,.int .i64 x10,.int .i64 x11,.int .i64 x12,.int .i64 x13,.int .i64 x14,.int .i64 x15,.int .i64 x16,.int .i64 x17,.int .i64 x18,.int .i64 x19,.int .i64 x20,.int .i64 x21])) (ih0 (n0 + 1) (2 * (n0 + 1) + bb false 1 0) s0 z0 (wrapF .i64 (Int.add (Int.ofNat k2) (1:Int))) (updE (.agg ⟨[.int .i64 x0,.int .i64 x1,.int .i64 x2,.int .i64 x3,.int .i64 x4,.int .i64 x5,.int .i64 x6,.int .i64 x7,.int .i64 x8,.int .i64 x9,.int .i64 x10,.int .i64 x11,.int .i64 x12,.int .i64 x13,.int .i64 x14,.int .i64 x15,.int .i64 x16,.int .i64 x17,.int .i64 x18,.int .i64 x19,.int .i64 x20,.int .i64 x21]⟩) (.bool true) k1 e0 r0) (updC k1 r0) (appL (dropL 0 q1) [.int .i64 x0,.int .i64 x1,.int .i64 x2,.int .i64 x3,.int .i64 x4,.int .i64 x5,.int .i64 x6,.int .i64 x7,.int .i64 x8,.int .i64 x9,.int .i64 x10,.int .i64 x11,.int .i64 x12,.int .i64 x13,.int .i64 x14,.int .i64 x15,.int .i64 x16,.int .i64 x17,.int .i64 x18,.int .i64 x19,.int .i64 x20,.int .i64 x21])) none) none) none)))))))))))))))))))))))) fun _ _=>none))))))))))))))))))))))))))) none)) (m6_0 pu n n0 c0 e0 k1 q1)) none) none)
def l6_6 (pu:PureF) (n w:Nat):Nat→Nat→Sl→Int→Int→List Ent→Nat→LV→OV:=
 Nat.rec (motive:=fun _=>Nat→Nat→Sl→Int→Int→List Ent→Nat→LV→OV) (fun _ _ _ _ _ _ _ _=>none) (fun _ ih0=>b6_6 pu n ih0) w
def m6_ (pu:PureF) (n:Nat) (s0:Sl):OV:=
 (oo (pu 23 [Sl.v 1 s0]) none fun v0=>(oo (toI .i64 v0) none fun x0=>(bb (nt (ieq x0 (0:Int))) (some (.tuple ⟨[(.int .i64 (0:Int)),.int .i64 x0]⟩)) (bb (allL entClosed ([]:List Ent)) (oo (pu 24 [Sl.v 1 s0]) none fun v1=>(oo (vAgg v1) none fun l0=>(ll l0 none fun v2 l0=>(ll l0 none fun v3 l0=>(ll l0 none fun v4 l0=>(ll l0 none fun v5 l0=>(ll l0 none fun v6 l0=>(ll l0 none fun v7 l0=>(ll l0 none fun v8 l0=>(ll l0 none fun v9 l0=>(ll l0 none fun v10 l0=>(ll l0 none fun v11 l0=>(ll l0 none fun v12 l0=>(ll l0 none fun v13 l0=>(ll l0 none fun v14 l0=>(ll l0 none fun v15 l0=>(ll l0 none fun v16 l0=>(ll l0 none fun v17 l0=>(ll l0 none fun v18 l0=>(ll l0 none fun v19 l0=>(ll l0 none fun v20 l0=>(ll l0 none fun v21 l0=>(ll l0 none fun v22 l0=>(ll l0 none fun v23 l0=>(ll l0 (oo (toI .i64 v2) none fun x1=>(oo (toI .i64 v3) none fun x2=>(oo (toI .i64 v4) none fun x3=>(oo (toI .i64 v5) none fun x4=>(oo (toI .i64 v6) none fun x5=>(oo (toI .i64 v7) none fun x6=>(oo (toI .i64 v8) none fun x7=>(oo (toI .i64 v9) none fun x8=>(oo (toI .i64 v10) none fun x9=>(oo (toI .i64 v11) none fun x10=>(oo (toI .i64 v12) none fun x11=>(oo (toI .i64 v13) none fun x12=>(oo (toI .i64 v14) none fun x13=>(oo (toI .i64 v15) none fun x14=>(oo (toI .i64 v16) none fun x15=>(oo (toI .i64 v17) none fun x16=>(oo (toI .i64 v18) none fun x17=>(oo (toI .i64 v19) none fun x18=>(oo (toI .i64 v20) none fun x19=>(oo (toI .i64 v21) none fun x20=>(oo (toI .i64 v22) none fun x21=>(oo (toI .i64 v23) none fun x22=>(oo (pu 25 [(.agg ⟨[.int .i64 x1,.int .i64 x2,.int .i64 x3,.int .i64 x4,.int .i64 x5,.int .i64 x6,.int .i64 x7,.int .i64 x8,.int .i64 x9,.int .i64 x10,.int .i64 x11,.int .i64 x12,.int .i64 x13,.int .i64 x14,.int .i64 x15,.int .i64 x16,.int .i64 x17,.int .i64 x18,.int .i64 x19,.int .i64 x20,.int .i64 x21,.int .i64 x22]⟩)]) none fun v24=>(oo (toSl 1 v24) none fun s1=>(l6_6 pu n n 0 0 s1 (Int.ofNat (Sl.n s1)) (0:Int) ([]:List Ent) 0 ([]:LV)))))))))))))))))))))))))) fun _ _=>none))))))))))))))))))))))))) none))))
def m6 (pu:PureF) (n:Nat) (args:LV):OV:=
 (ll args none fun a0 args=>(ll args (oo (toSl 1 a0) none fun s0=>(m6_ pu n s0)) fun _ _=>none))
theorem w6_1 (pu:PureF) (n:Nat) (e0:List Ent) (k1:Nat) {v:Value} (hm:m6_1 pu n e0 k1 = some v):Run tt (callP tabs isP pu (inl pu)) 0 c6_59 (fr 65 [(5,(.map (some 0)))]) (hp 1 [(.map e0 k1)]) (Fin tt 0 [.tmp 2,.tmp 3] v):=by
 unfold m6_1 at hm
 refine .then (.rK ?_)
 refine .ghs (fr 65 [(2,(zI (Int.ofNat (len e0)))),(3,(zI (0:Int)))]) (hp 0 []) (.k0 [] [] [2,3]) ?_
 refine .ret ?_
 exact fin_ret (.tuple ⟨[(zI (Int.ofNat (len e0))),(zI (0:Int))]⟩) (by kernel_rfl) (by kernel_rfl) hm
theorem w6_0 (pu:PureF) (n n0 c0:Nat) (e0:List Ent) (k1:Nat) (q1:LV) {v:Value} (hm:m6_0 pu n n0 c0 e0 k1 q1 = some v):Run tt (callP tabs isP pu (inl pu)) 0 c6_60 (fr 65 [(5,(.map (some 0))),(6,sc 1 0 22 n0 c0)]) (hp 2 [(.map e0 k1),oC q1]) (Fin tt 0 [.tmp 2,.tmp 3] v):=by
 unfold m6_0 at hm
 refine .join (v:=v) (fun y:List Ent×Nat=>((fr 65 [(5,(.map (some 0)))]),(hp 1 [(.map y.1 y.2)]))) (fun y=>m6_1 pu n y.1 y.2) ?_ ?_
 ·rintro ⟨e1, k2⟩ hm
  exact w6_1 pu n e1 k2 hm
 ·refine .block ?_
  replace hm:=bb_inv hm;obtain ⟨h0,hm⟩:=hm
  replace hm:=bb_inv hm;obtain ⟨h1,hm⟩:=hm
  refine .loopM (v:=v) (fun y:Nat×Nat×Nat×List Ent×Nat×LV=>((fr 65 [(5,(.map (some 0))),(6,(.slice (some ⟨1,y.1,some 22⟩) y.2.1 y.2.2.1))]),(hp 2 [(.map y.2.2.2.1 y.2.2.2.2.1),(oC y.2.2.2.2.2)]))) (fun w y=>l6_2 pu n w y.1 y.2.1 y.2.2.1 y.2.2.2.1 y.2.2.2.2.1 y.2.2.2.2.2) n ⟨(0,n0,c0,e0,k1,q1),hm,(.k [0,1] [] [.tmp 5 false,.tmp 6 false] [5,6] ⟨trF h0,trF h1,trivial⟩)⟩ (fun _=>rfl) ?_
  rintro w0 ⟨n1,n2,c1,e2,k3,q2⟩ hm
  replace hm:b6_2 pu n (l6_2 pu n w0) n1 n2 c1 e2 k3 q2 = some v:=hm
  unfold b6_2 at hm
  refine .then ?_
  refine .then (.rK ?_)
  replace hm:=bb_inv hm;obtain ⟨h2,hm⟩:=hm
  replace hm:=bb_inv hm;obtain ⟨h3,hm⟩:=hm
  refine .ghs (fr 65 [(5,(.map (some 0))),(6,(.slice (some ⟨1,n1,some 22⟩) n2 c1)),(38,(zB (ilt (0:Int) (Int.ofNat n2))))]) (hp 2 [(.map e2 k3),oC q2]) (.k [0,1] [] [.tmp 5 false,.tmp 6 false] [5,6,38] ⟨trF h2,trF h3,trivial⟩) ?_
  replace hm:=bb_cases hm;rcases hm with ⟨h4,hm⟩ | ⟨h4,hm⟩
  ·refine .ifT (ilt (0 : Int) (Int.ofNat n2)) (by kernel_rfl) h4 ?_
   refine .skip ?_
   refine .ghs (fr 65 [(5,(.map (some 0))),(6,(.slice (some ⟨1,n1,some 22⟩) n2 c1))]) (hp 2 [(.map e2 k3),oC q2]) (.k [0,1] [] [.tmp 5 false,.tmp 6 false] [5,6] ⟨trF h2,trF h3,trivial⟩) ?_
   refine .join (v:=v) (fun y:Nat×Nat×Nat×List Ent×Nat×LV=>((fr 65 [(5,(.map (some 0))),(6,(.slice (some ⟨1,y.1,some 22⟩) y.2.1 y.2.2.1))]),(hp 2 [(.map y.2.2.2.1 y.2.2.2.2.1),(oC y.2.2.2.2.2)]))) (fun y=>m6_3 pu n (l6_2 pu n w0) y.1 y.2.1 y.2.2.1 y.2.2.2.1 y.2.2.2.2.1 y.2.2.2.2.2) ?_ ?_
   ·rintro ⟨n3, n4, c2, e3, k4, q3⟩ hm
    unfold m6_3 at hm
    replace hm:=bb_inv hm;obtain ⟨h5,hm⟩:=hm
    refine .reg (eC 1 (keep (hp 2 [(.map e3 k4),oC q3]) (oo (bb (Nat.ble 1 n4) (some 1) none) none fun l=>some (sliceAt 1 (n3 + l * 22) 22 (n4 - l) (c2 / 2 - l) (orr false (Nat.beq (c2 % 2) 1))))) (show _ = some ((.slice (some ⟨1,(n3 + 1 * 22),some 22⟩) (n4 - 1) (2 * (c2 / 2 - 1) + bb (orr false (Nat.beq (c2 % 2) 1)) 1 0)),(hp 2 [(.map e3 k4),oC q3])) from (keep_sl h5).trans (by kernel_rfl)) (eE)) ?_
    replace hm:=bb_inv hm;obtain ⟨h6,hm⟩:=hm
    replace hm:=bb_inv hm;obtain ⟨h7,hm⟩:=hm
    exact ⟨((n3 + 1 * 22),(n4 - 1),(2 * (c2 / 2 - 1) + bb (orr false (Nat.beq (c2 % 2) 1)) 1 0),e3,k4,q3),hm,(.k [0,1] [] [.tmp 5 false,.tmp 6 false] [5,6] ⟨trF h6,trF h7,trivial⟩)⟩
   ·refine .block ?_
    refine .then ?_
    replace hm:=bb_inv hm;obtain ⟨h8,hm⟩:=hm
    replace hm:=bb_inv hm;obtain ⟨h9,hm⟩:=hm
    replace hm:=oo_inv hm;obtain ⟨v0,h10,hm⟩:=hm
    replace hm:=inv_toI hm;obtain ⟨x0,rfl,hm⟩:=hm
    replace hm:=oo_inv hm;obtain ⟨v1,h11,hm⟩:=hm
    replace hm:=inv_toI hm;obtain ⟨x1,rfl,hm⟩:=hm
    replace hm:=oo_inv hm;obtain ⟨v2,h12,hm⟩:=hm
    replace hm:=inv_toI hm;obtain ⟨x2,rfl,hm⟩:=hm
    replace hm:=oo_inv hm;obtain ⟨v3,h13,hm⟩:=hm
    replace hm:=inv_toI hm;obtain ⟨x3,rfl,hm⟩:=hm
    replace hm:=oo_inv hm;obtain ⟨v4,h14,hm⟩:=hm
    replace hm:=inv_toI hm;obtain ⟨x4,rfl,hm⟩:=hm
    replace hm:=oo_inv hm;obtain ⟨v5,h15,hm⟩:=hm
    replace hm:=inv_toI hm;obtain ⟨x5,rfl,hm⟩:=hm
    replace hm:=oo_inv hm;obtain ⟨v6,h16,hm⟩:=hm
    replace hm:=inv_toI hm;obtain ⟨x6,rfl,hm⟩:=hm
    replace hm:=oo_inv hm;obtain ⟨v7,h17,hm⟩:=hm
    replace hm:=inv_toI hm;obtain ⟨x7,rfl,hm⟩:=hm
    replace hm:=oo_inv hm;obtain ⟨v8,h18,hm⟩:=hm
    replace hm:=inv_toI hm;obtain ⟨x8,rfl,hm⟩:=hm
    replace hm:=oo_inv hm;obtain ⟨v9,h19,hm⟩:=hm
    replace hm:=inv_toI hm;obtain ⟨x9,rfl,hm⟩:=hm
    replace hm:=oo_inv hm;obtain ⟨v10,h20,hm⟩:=hm
    replace hm:=inv_toI hm;obtain ⟨x10,rfl,hm⟩:=hm
    replace hm:=oo_inv hm;obtain ⟨v11,h21,hm⟩:=hm
    replace hm:=inv_toI hm;obtain ⟨x11,rfl,hm⟩:=hm
    replace hm:=oo_inv hm;obtain ⟨v12,h22,hm⟩:=hm
    replace hm:=inv_toI hm;obtain ⟨x12,rfl,hm⟩:=hm
    replace hm:=oo_inv hm;obtain ⟨v13,h23,hm⟩:=hm
    replace hm:=inv_toI hm;obtain ⟨x13,rfl,hm⟩:=hm
    replace hm:=oo_inv hm;obtain ⟨v14,h24,hm⟩:=hm
    replace hm:=inv_toI hm;obtain ⟨x14,rfl,hm⟩:=hm
    replace hm:=oo_inv hm;obtain ⟨v15,h25,hm⟩:=hm
    replace hm:=inv_toI hm;obtain ⟨x15,rfl,hm⟩:=hm
    replace hm:=oo_inv hm;obtain ⟨v16,h26,hm⟩:=hm
    replace hm:=inv_toI hm;obtain ⟨x16,rfl,hm⟩:=hm
    replace hm:=oo_inv hm;obtain ⟨v17,h27,hm⟩:=hm
    replace hm:=inv_toI hm;obtain ⟨x17,rfl,hm⟩:=hm
    replace hm:=oo_inv hm;obtain ⟨v18,h28,hm⟩:=hm
    replace hm:=inv_toI hm;obtain ⟨x18,rfl,hm⟩:=hm
    replace hm:=oo_inv hm;obtain ⟨v19,h29,hm⟩:=hm
    replace hm:=inv_toI hm;obtain ⟨x19,rfl,hm⟩:=hm
    replace hm:=oo_inv hm;obtain ⟨v20,h30,hm⟩:=hm
    replace hm:=inv_toI hm;obtain ⟨x20,rfl,hm⟩:=hm
    replace hm:=oo_inv hm;obtain ⟨v21,h31,hm⟩:=hm
    replace hm:=inv_toI hm;obtain ⟨x21,rfl,hm⟩:=hm
    replace hm:=oo_inv hm;obtain ⟨v22,h32,hm⟩:=hm
    replace hm:=inv_toSl hm;obtain ⟨s0,rfl,hm⟩:=hm
    refine .reg (eC 1 (keep (hp 2 [(.map e2 k3),oC q2]) (bb (an (Nat.blt 0 n2) true) (some (.pointer (some ⟨1,(n1 + 0 * 22),none⟩))) none)) (keep_bb h8) (eD (keep (hp 2 [(.map e2 k3),oC q2]) (bb (Nat.ble ((n1 + 0 * 22) + 22) (len q2)) (some (.agg ⟨takeL 22 (dropL (n1 + 0 * 22) q2)⟩)) none)) (keep_agg h9 (takeL_cons h10 (takeL_cons h11 (takeL_cons h12 (takeL_cons h13 (takeL_cons h14 (takeL_cons h15 (takeL_cons h16 (takeL_cons h17 (takeL_cons h18 (takeL_cons h19 (takeL_cons h20 (takeL_cons h21 (takeL_cons h22 (takeL_cons h23 (takeL_cons h24 (takeL_cons h25 (takeL_cons h26 (takeL_cons h27 (takeL_cons h28 (takeL_cons h29 (takeL_cons h30 (takeL_cons h31 rfl))))))))))))))))))))))) (eD ((oo (pu 26 [(.agg ⟨[zI x0,zI x1,zI x2,zI x3,zI x4,zI x5,zI x6,zI x7,zI x8,zI x9,zI x10,zI x11,zI x12,zI x13,zI x14,zI x15,zI x16,zI x17,zI x18,zI x19,zI x20,zI x21]⟩)]) none fun v=>some (v,(hp 2 [(.map e2 k3),oC q2])))) (call_eq h32) (eE)))) ?_
    refine .ghs (fr 65 [(5,(.map (some 0))),(6,(.slice (some ⟨1,n1,some 22⟩) n2 c1)),(44,Sl.v 1 s0),(45,(zI (Int.ofNat (Sl.n s0)))),(46,(zI (0:Int)))]) (hp 2 [(.map e2 k3),oC q2]) (.k [0,1] [] [.tmp 5 false,.tmp 6 false] [5,6,44,45,46] ⟨trF h2,trF h3,trivial⟩) ?_
    refine .block ?_
    refine .loopM (v:=v) (fun y:Nat×Nat×Nat×Sl×Int×Int×List Ent×Nat×LV=>((fr 65 [(5,(.map (some 0))),(6,(.slice (some ⟨1,y.1,some 22⟩) y.2.1 y.2.2.1)),(44,(Sl.v 1 y.2.2.2.1)),(45,(zI y.2.2.2.2.1)),(46,(zI y.2.2.2.2.2.1))]),(hp 2 [(.map y.2.2.2.2.2.2.1 y.2.2.2.2.2.2.2.1),(oC y.2.2.2.2.2.2.2.2)]))) (fun w y=>l6_4 pu n (l6_2 pu n w0) w y.1 y.2.1 y.2.2.1 y.2.2.2.1 y.2.2.2.2.1 y.2.2.2.2.2.1 y.2.2.2.2.2.2.1 y.2.2.2.2.2.2.2.1 y.2.2.2.2.2.2.2.2) n ⟨(n1,n2,c1,s0,(Int.ofNat (Sl.n s0)),(0:Int),e2,k3,q2),hm,(.k [0,1] [] [.tmp 5 false,.tmp 6 false] [5,6,44,45,46] ⟨trF h2,trF h3,trivial⟩)⟩ (fun _=>rfl) ?_
    rintro w1 ⟨n5,n6,c99,s1,z0,z1,e4,k5,q4⟩ hm
    replace hm:b6_4 pu n (l6_2 pu n w0) (l6_4 pu n (l6_2 pu n w0) w1) n5 n6 c99 s1 z0 z1 e4 k5 q4 = some v:=hm
    unfold b6_4 at hm
    refine .then (.rK ?_)
    replace hm:=bb_inv hm;obtain ⟨h33,hm⟩:=hm
    replace hm:=bb_inv hm;obtain ⟨h34,hm⟩:=hm
    refine .ghs (fr 65 [(5,(.map (some 0))),(6,(.slice (some ⟨1,n5,some 22⟩) n6 c99)),(44,Sl.v 1 s1),(45,zI z0),(46,zI z1),(47,(zB (ilt z1 z0)))]) (hp 2 [(.map e4 k5),oC q4]) (.k [0,1] [] [.tmp 5 false,.tmp 6 false] [5,6,44,45,46,47] ⟨trF h33,trF h34,trivial⟩) ?_
    refine .then ?_
    replace hm:=bb_cases hm;rcases hm with ⟨h35,hm⟩ | ⟨h35,hm⟩
    ·refine .ifT (ilt z1 z0) (by kernel_rfl) h35 ?_
     refine .skip ?_
     refine .ghs (fr 65 [(5,(.map (some 0))),(6,(.slice (some ⟨1,n5,some 22⟩) n6 c99)),(44,Sl.v 1 s1),(45,zI z0),(46,zI z1)]) (hp 2 [(.map e4 k5),oC q4]) (.k [0,1] [] [.tmp 5 false,.tmp 6 false] [5,6,44,45,46] ⟨trF h33,trF h34,trivial⟩) ?_
     refine .join (v:=v) (fun y:Nat×Nat×Nat×Sl×Int×Int×List Ent×Nat×LV=>((fr 65 [(5,(.map (some 0))),(6,(.slice (some ⟨1,y.1,some 22⟩) y.2.1 y.2.2.1)),(44,(Sl.v 1 y.2.2.2.1)),(45,(zI y.2.2.2.2.1)),(46,(zI y.2.2.2.2.2.1))]),(hp 2 [(.map y.2.2.2.2.2.2.1 y.2.2.2.2.2.2.2.1),(oC y.2.2.2.2.2.2.2.2)]))) (fun y=>m6_5 pu n (l6_2 pu n w0) (l6_4 pu n (l6_2 pu n w0) w1) y.1 y.2.1 y.2.2.1 y.2.2.2.1 y.2.2.2.2.1 y.2.2.2.2.2.1 y.2.2.2.2.2.2.1 y.2.2.2.2.2.2.2.1 y.2.2.2.2.2.2.2.2) ?_ ?_
     ·rintro ⟨n7, n8, c100, s2, z2, z3, e5, k10, q5⟩ hm
      unfold m6_5 at hm
      refine .rK ?_
      replace hm:=bb_inv hm;obtain ⟨h36,hm⟩:=hm
      replace hm:=bb_inv hm;obtain ⟨h37,hm⟩:=hm
      exact ⟨(n7,n8,c100,s2,z2,(wrapF .i64 (Int.add z3 (1:Int))),e5,k10,q5),hm,(.k [0,1] [] [.tmp 5 false,.tmp 6 false] [5,6,44,45,46] ⟨trF h36,trF h37,trivial⟩)⟩
     ·refine .block ?_
      refine .then ?_
      replace hm:=oo_inv hm;obtain ⟨k11,h38,hm⟩:=hm
      obtain rfl:=toN_some h38
      replace hm:=bb_inv hm;obtain ⟨h39,hm⟩:=hm
      replace hm:=oo_inv hm;obtain ⟨v23,h40,hm⟩:=hm
      replace hm:=inv_toSl hm;obtain ⟨s3,rfl,hm⟩:=hm
      refine .reg (eD (keep (hp 2 [(.map e4 k5),oC q4]) (bb (an (Nat.blt k11 (Sl.n s1)) true) (some (fpV (k11 * 1) (Sl.cs s1))) none)) (keep_bb h39) (eD (keep (hp 2 [(.map e4 k5),oC q4]) (nthL (Sl.cs s1) (k11 * 1))) (keep_eq h40) (eE))) ?_
      refine .ghs (fr 65 [(5,(.map (some 0))),(6,(.slice (some ⟨1,n5,some 22⟩) n6 c99)),(11,Sl.v 1 s3),(44,Sl.v 1 s1),(45,zI z0),(46,(zI (Int.ofNat k11)))]) (hp 2 [(.map e4 k5),oC q4]) (.k [0,1] [] [.tmp 5 false,.tmp 6 false] [5,6,11,44,45,46] ⟨trF h33,trF h34,trivial⟩) ?_
      refine .then ?_
      replace hm:=oo_inv hm;obtain ⟨v24,h41,hm⟩:=hm
      replace hm:=inv_vAgg hm;obtain ⟨l0,rfl,hm⟩:=hm
      replace hm:=ll_uncons hm;obtain ⟨v25,l5335_0,rfl,hm⟩:=hm
      replace hm:=ll_uncons hm;obtain ⟨v26,l5335_1,rfl,hm⟩:=hm
      replace hm:=ll_uncons hm;obtain ⟨v27,l5335_2,rfl,hm⟩:=hm
      replace hm:=ll_uncons hm;obtain ⟨v28,l5335_3,rfl,hm⟩:=hm
      replace hm:=ll_uncons hm;obtain ⟨v29,l5335_4,rfl,hm⟩:=hm
      replace hm:=ll_uncons hm;obtain ⟨v30,l5335_5,rfl,hm⟩:=hm
      replace hm:=ll_uncons hm;obtain ⟨v31,l5335_6,rfl,hm⟩:=hm
      replace hm:=ll_uncons hm;obtain ⟨v32,l5335_7,rfl,hm⟩:=hm
      replace hm:=ll_uncons hm;obtain ⟨v33,l5335_8,rfl,hm⟩:=hm
      replace hm:=ll_uncons hm;obtain ⟨v34,l5335_9,rfl,hm⟩:=hm
      replace hm:=ll_uncons hm;obtain ⟨v35,l5335_10,rfl,hm⟩:=hm
      replace hm:=ll_uncons hm;obtain ⟨v36,l5335_11,rfl,hm⟩:=hm
      replace hm:=ll_uncons hm;obtain ⟨v37,l5335_12,rfl,hm⟩:=hm
      replace hm:=ll_uncons hm;obtain ⟨v38,l5335_13,rfl,hm⟩:=hm
      replace hm:=ll_uncons hm;obtain ⟨v39,l5335_14,rfl,hm⟩:=hm
      replace hm:=ll_uncons hm;obtain ⟨v40,l5335_15,rfl,hm⟩:=hm
      replace hm:=ll_uncons hm;obtain ⟨v41,l5335_16,rfl,hm⟩:=hm
      replace hm:=ll_uncons hm;obtain ⟨v42,l5335_17,rfl,hm⟩:=hm
      replace hm:=ll_uncons hm;obtain ⟨v43,l5335_18,rfl,hm⟩:=hm
      replace hm:=ll_uncons hm;obtain ⟨v44,l5335_19,rfl,hm⟩:=hm
      replace hm:=ll_uncons hm;obtain ⟨v45,l5335_20,rfl,hm⟩:=hm
      replace hm:=ll_uncons hm;obtain ⟨v46,l5335_21,rfl,hm⟩:=hm
      replace hm:=ll_end hm;obtain ⟨rfl,hm⟩:=hm
      replace hm:=inv_toI hm;obtain ⟨x22,rfl,hm⟩:=hm
      replace hm:=inv_toI hm;obtain ⟨x23,rfl,hm⟩:=hm
      replace hm:=inv_toI hm;obtain ⟨x24,rfl,hm⟩:=hm
      replace hm:=inv_toI hm;obtain ⟨x25,rfl,hm⟩:=hm
      replace hm:=inv_toI hm;obtain ⟨x26,rfl,hm⟩:=hm
      replace hm:=inv_toI hm;obtain ⟨x27,rfl,hm⟩:=hm
      replace hm:=inv_toI hm;obtain ⟨x28,rfl,hm⟩:=hm
      replace hm:=inv_toI hm;obtain ⟨x29,rfl,hm⟩:=hm
      replace hm:=inv_toI hm;obtain ⟨x30,rfl,hm⟩:=hm
      replace hm:=inv_toI hm;obtain ⟨x31,rfl,hm⟩:=hm
      replace hm:=inv_toI hm;obtain ⟨x32,rfl,hm⟩:=hm
      replace hm:=inv_toI hm;obtain ⟨x33,rfl,hm⟩:=hm
      replace hm:=inv_toI hm;obtain ⟨x34,rfl,hm⟩:=hm
      replace hm:=inv_toI hm;obtain ⟨x35,rfl,hm⟩:=hm
      replace hm:=inv_toI hm;obtain ⟨x36,rfl,hm⟩:=hm
      replace hm:=inv_toI hm;obtain ⟨x37,rfl,hm⟩:=hm
      replace hm:=inv_toI hm;obtain ⟨x38,rfl,hm⟩:=hm
      replace hm:=inv_toI hm;obtain ⟨x39,rfl,hm⟩:=hm
      replace hm:=inv_toI hm;obtain ⟨x40,rfl,hm⟩:=hm
      replace hm:=inv_toI hm;obtain ⟨x41,rfl,hm⟩:=hm
      replace hm:=inv_toI hm;obtain ⟨x42,rfl,hm⟩:=hm
      replace hm:=inv_toI hm;obtain ⟨x43,rfl,hm⟩:=hm
      refine .reg (eC 1 ((oo (pu 24 [Sl.v 1 s3]) none fun v=>some (v,(hp 2 [(.map e4 k5),oC q4])))) (call_eq h41) (eE)) ?_
      refine .ghs (fr 65 [(5,(.map (some 0))),(6,(.slice (some ⟨1,n5,some 22⟩) n6 c99)),(12,(pt 2 0)),(44,Sl.v 1 s1),(45,zI z0),(46,(zI (Int.ofNat k11)))]) (hp 3 [(.map e4 k5),oC q4,(oC [zI x22,zI x23,zI x24,zI x25,zI x26,zI x27,zI x28,zI x29,zI x30,zI x31,zI x32,zI x33,zI x34,zI x35,zI x36,zI x37,zI x38,zI x39,zI x40,zI x41,zI x42,zI x43])]) (.k [0,1] [] [.tmp 5 false,.tmp 6 false,.tmp 12 false] [5,6,12,44,45,46] ⟨trF h33,trF h34,trivial⟩) ?_
      refine .then ?_
      replace hm:=oo_inv hm;obtain ⟨r0,h42,hm⟩:=hm
      replace hm:=oo_inv hm;obtain ⟨b0,h43,hm⟩:=hm
      refine .reg (eC 2 (keep (hp 3 [(.map e4 k5),oC q4,(oC [zI x22,zI x23,zI x24,zI x25,zI x26,zI x27,zI x28,zI x29,zI x30,zI x31,zI x32,zI x33,zI x34,zI x35,zI x36,zI x37,zI x38,zI x39,zI x40,zI x41,zI x42,zI x43])]) (oo (findE (.agg ⟨[zI x22,zI x23,zI x24,zI x25,zI x26,zI x27,zI x28,zI x29,zI x30,zI x31,zI x32,zI x33,zI x34,zI x35,zI x36,zI x37,zI x38,zI x39,zI x40,zI x41,zI x42,zI x43]⟩) e4 0) none fun r=>oo r (okV false (zB false) false) fun p=>pp p fun _ v=>okV false v true)) (look_vv h42 (vBool_some h43)) (eE)) ?_
      refine .ghs (fr 65 [(5,(.map (some 0))),(6,(.slice (some ⟨1,n5,some 22⟩) n6 c99)),(12,(pt 2 0)),(44,Sl.v 1 s1),(45,zI z0),(46,(zI (Int.ofNat k11))),(55,(zB (nt b0)))]) (hp 3 [(.map e4 k5),oC q4,(oC [zI x22,zI x23,zI x24,zI x25,zI x26,zI x27,zI x28,zI x29,zI x30,zI x31,zI x32,zI x33,zI x34,zI x35,zI x36,zI x37,zI x38,zI x39,zI x40,zI x41,zI x42,zI x43])]) (.k [0,1] [] [.tmp 5 false,.tmp 6 false,.tmp 12 false] [5,6,12,44,45,46,55] ⟨trF h33,trF h34,trivial⟩) ?_
      replace hm:=bb_cases hm;rcases hm with ⟨h44,hm⟩ | ⟨h44,hm⟩
      ·refine .ifT (nt b0) (by kernel_rfl) h44 ?_
       refine .then ?_
       replace hm:=oo_inv hm;obtain ⟨r1,h45,hm⟩:=hm
       refine .reg (eC 2 (done (oo (findE (.agg ⟨[zI x22,zI x23,zI x24,zI x25,zI x26,zI x27,zI x28,zI x29,zI x30,zI x31,zI x32,zI x33,zI x34,zI x35,zI x36,zI x37,zI x38,zI x39,zI x40,zI x41,zI x42,zI x43]⟩) e4 0) none fun r=>oo r (some (AHeap.set (hp 3 [(.map e4 k5),oC q4,(oC [zI x22,zI x23,zI x24,zI x25,zI x26,zI x27,zI x28,zI x29,zI x30,zI x31,zI x32,zI x33,zI x34,zI x35,zI x36,zI x37,zI x38,zI x39,zI x40,zI x41,zI x42,zI x43])]) 0 (.map (appL e4 [⟨(.agg ⟨[zI x22,zI x23,zI x24,zI x25,zI x26,zI x27,zI x28,zI x29,zI x30,zI x31,zI x32,zI x33,zI x34,zI x35,zI x36,zI x37,zI x38,zI x39,zI x40,zI x41,zI x42,zI x43]⟩),zB true,k5⟩]) (k5 + 1)))) fun p=>pp p fun j _=>some (AHeap.set (hp 3 [(.map e4 k5),oC q4,(oC [zI x22,zI x23,zI x24,zI x25,zI x26,zI x27,zI x28,zI x29,zI x30,zI x31,zI x32,zI x33,zI x34,zI x35,zI x36,zI x37,zI x38,zI x39,zI x40,zI x41,zI x42,zI x43])]) 0 (.map (modL (fun e=>⟨(.agg ⟨[zI x22,zI x23,zI x24,zI x25,zI x26,zI x27,zI x28,zI x29,zI x30,zI x31,zI x32,zI x33,zI x34,zI x35,zI x36,zI x37,zI x38,zI x39,zI x40,zI x41,zI x42,zI x43]⟩),zB true,e.born⟩) j e4) k5))) undef) (upd_eq (H2:=(hp 3 [(.map (updE (.agg ⟨[zI x22,zI x23,zI x24,zI x25,zI x26,zI x27,zI x28,zI x29,zI x30,zI x31,zI x32,zI x33,zI x34,zI x35,zI x36,zI x37,zI x38,zI x39,zI x40,zI x41,zI x42,zI x43]⟩) (zB true) k5 e4 r1) (updC k5 r1)),oC q4,(oC [zI x22,zI x23,zI x24,zI x25,zI x26,zI x27,zI x28,zI x29,zI x30,zI x31,zI x32,zI x33,zI x34,zI x35,zI x36,zI x37,zI x38,zI x39,zI x40,zI x41,zI x42,zI x43])])) h45) (eE)) ?_
       replace hm:=bb_inv hm;obtain ⟨h46,hm⟩:=hm
       refine .ghs (fr 65 [(5,(.map (some 0))),(6,(.slice (some ⟨1,n5,some 22⟩) n6 c99)),(12,(pt 2 0)),(44,Sl.v 1 s1),(45,zI z0),(46,(zI (Int.ofNat k11)))]) (hp 3 [(.map (updE (.agg ⟨[zI x22,zI x23,zI x24,zI x25,zI x26,zI x27,zI x28,zI x29,zI x30,zI x31,zI x32,zI x33,zI x34,zI x35,zI x36,zI x37,zI x38,zI x39,zI x40,zI x41,zI x42,zI x43]⟩) (zB true) k5 e4 r1) (updC k5 r1)),oC q4,(oC [zI x22,zI x23,zI x24,zI x25,zI x26,zI x27,zI x28,zI x29,zI x30,zI x31,zI x32,zI x33,zI x34,zI x35,zI x36,zI x37,zI x38,zI x39,zI x40,zI x41,zI x42,zI x43])]) (.k [0,1] [] [.tmp 5 false,.tmp 6 false,.tmp 12 false] [5,6,12,44,45,46] ⟨trF h46,trF h34,trivial⟩) ?_
       replace hm:=bb_inv hm;obtain ⟨h47,hm⟩:=hm
       refine .reg (eC 3 (growD2 22 176 n5 n6 c99 1 1 q4 [zI x22,zI x23,zI x24,zI x25,zI x26,zI x27,zI x28,zI x29,zI x30,zI x31,zI x32,zI x33,zI x34,zI x35,zI x36,zI x37,zI x38,zI x39,zI x40,zI x41,zI x42,zI x43] [] (hp 4 [(.map (updE (.agg ⟨[zI x22,zI x23,zI x24,zI x25,zI x26,zI x27,zI x28,zI x29,zI x30,zI x31,zI x32,zI x33,zI x34,zI x35,zI x36,zI x37,zI x38,zI x39,zI x40,zI x41,zI x42,zI x43]⟩) (zB true) k5 e4 r1) (updC k5 r1)),oC q4,(oC [zI x22,zI x23,zI x24,zI x25,zI x26,zI x27,zI x28,zI x29,zI x30,zI x31,zI x32,zI x33,zI x34,zI x35,zI x36,zI x37,zI x38,zI x39,zI x40,zI x41,zI x42,zI x43]),(oC [zI x22,zI x23,zI x24,zI x25,zI x26,zI x27,zI x28,zI x29,zI x30,zI x31,zI x32,zI x33,zI x34,zI x35,zI x36,zI x37,zI x38,zI x39,zI x40,zI x41,zI x42,zI x43])])) (growD2_eq h47) (eE)) ?_
       replace hm:=bb_inv hm;obtain ⟨h48,hm⟩:=hm
       exact ⟨(0,(n6 + 1),(d2 (n6 + 1)),s1,z0,(Int.ofNat k11),(updE (.agg ⟨[zI x22,zI x23,zI x24,zI x25,zI x26,zI x27,zI x28,zI x29,zI x30,zI x31,zI x32,zI x33,zI x34,zI x35,zI x36,zI x37,zI x38,zI x39,zI x40,zI x41,zI x42,zI x43]⟩) (zB true) k5 e4 r1),(updC k5 r1),(appL (dropL n5 q4) [zI x22,zI x23,zI x24,zI x25,zI x26,zI x27,zI x28,zI x29,zI x30,zI x31,zI x32,zI x33,zI x34,zI x35,zI x36,zI x37,zI x38,zI x39,zI x40,zI x41,zI x42,zI x43])),hm,(.k [0,4] [] [.tmp 5 false,.tmp 6 false] [5,6,44,45,46] ⟨trF h46,trF h48,trivial⟩)⟩
      ·refine .ifF (nt b0) (by kernel_rfl) h44 ?_
       refine .skip ?_
       exact ⟨(n5,n6,c99,s1,z0,(Int.ofNat k11),e4,k5,q4),hm,(.k [0,1] [] [.tmp 5 false,.tmp 6 false] [5,6,44,45,46] ⟨trF h33,trF h34,trivial⟩)⟩
    ·refine .ifF (ilt z1 z0) (by kernel_rfl) h35 ?_
     refine .exit ?_
     exact ⟨(n5,n6,c99,e4,k5,q4),hm,(.k [0,1] [] [.tmp 5 false,.tmp 6 false] [5,6] ⟨trF h33,trF h34,trivial⟩)⟩
  ·refine .ifF (ilt (0 : Int) (Int.ofNat n2)) (by kernel_rfl) h4 ?_
   refine .exit ?_
   exact ⟨(e2,k3),hm,(.k [0] [] [.tmp 5 false] [5] ⟨trF h2,trivial⟩)⟩
theorem r6 {call:CallF} (pu:PureF) (n:Nat) (hcall:call = callP tabs isP pu (inl pu)) {args:LV} {v:Value} (hm:m6 pu n args = some v) (_:∀ x ∈ args,closed2 x = true):args.length≤65∧Run tt call 0 c6_65 (Fr.made 65 args) (pureHeap tabs) (Fin tt 0 [.tmp 2,.tmp 3] v):=by
 subst hcall
 unfold m6 at hm
 replace hm:=ll_uncons hm;obtain ⟨a0,args_0,rfl,hm⟩:=hm
 replace hm:=ll_end hm;obtain ⟨rfl,hm⟩:=hm
 replace hm:=inv_toSl hm;obtain ⟨s0,rfl,hm⟩:=hm
 unfold m6_ at hm
 refine ⟨by simp,?_⟩
 refine .same (F':=(fr 65 [(0,Sl.v 1 s0)])) (H':=(hp 0 [])) (by kernel_rfl) (by kernel_rfl) ?_
 refine .then (.rK ?_)
 refine .ghs (fr 65 [(0,Sl.v 1 s0)]) (hp 0 []) (.k0 [] [] [0]) ?_
 refine .then ?_
 refine .then ?_
 replace hm:=oo_inv hm;obtain ⟨v0,h0,hm⟩:=hm
 replace hm:=inv_toI hm;obtain ⟨x0,rfl,hm⟩:=hm
 refine .reg (eC 1 ((oo (pu 23 [Sl.v 1 s0]) none fun v=>some (v,(hp 0 [])))) (call_eq h0) (eE)) ?_
 refine .ghs (fr 65 [(0,Sl.v 1 s0),(4,zI x0)]) (hp 0 []) (.k0 [] [] [0,4]) ?_
 refine .then (.rK ?_)
 refine .ghs (fr 65 [(0,Sl.v 1 s0),(4,zI x0),(16,(zB (nt (ieq x0 (0:Int)))))]) (hp 0 []) (.k0 [] [] [0,4,16]) ?_
 replace hm:=bb_cases hm;rcases hm with ⟨h1,hm⟩ | ⟨h1,hm⟩
 ·refine .ifT (nt (ieq x0 (0 : Int))) (by kernel_rfl) h1 ?_
  refine .then (.rK ?_)
  refine .ghs (fr 65 [(2,(zI (0:Int))),(3,zI x0)]) (hp 0 []) (.k0 [] [] [2,3]) ?_
  refine .ret ?_
  exact fin_ret (.tuple ⟨[(zI (0:Int)),zI x0]⟩) (by kernel_rfl) (by kernel_rfl) hm
 ·refine .ifF (nt (ieq x0 (0 : Int))) (by kernel_rfl) h1 ?_
  refine .skip ?_
  refine .ghs (fr 65 [(0,Sl.v 1 s0)]) (hp 0 []) (.k0 [] [] [0]) ?_
  refine .then (.rK ?_)
  replace hm:=bb_inv hm;obtain ⟨h2,hm⟩:=hm
  refine .ghs (fr 65 [(0,Sl.v 1 s0),(5,(.map (some 0)))]) (hp 1 [(.map ([]:List Ent) 0)]) (.k [0] [] [.tmp 5 false] [0,5] ⟨trF h2,trivial⟩) ?_
  refine .then (.rK ?_)
  refine .ghs (fr 65 [(0,Sl.v 1 s0),(5,(.map (some 0))),(6,(.slice none 0 0))]) (hp 1 [(.map ([]:List Ent) 0)]) (.k [0] [] [.tmp 5 false] [0,5,6] ⟨trF h2,trivial⟩) ?_
  refine .join (v:=v) (fun y:Nat×Nat×List Ent×Nat×LV=>((fr 65 [(5,(.map (some 0))),(6,(sc 1 0 22 y.1 y.2.1))]),(hp 2 [(.map y.2.2.1 y.2.2.2.1),(oC y.2.2.2.2)]))) (fun y=>m6_0 pu n y.1 y.2.1 y.2.2.1 y.2.2.2.1 y.2.2.2.2) ?_ ?_
  ·rintro ⟨n0, c0, e0, k1, q1⟩ hm
   exact w6_0 pu n n0 c0 e0 k1 q1 hm
  ·refine .then ?_
   replace hm:=oo_inv hm;obtain ⟨v1,h3,hm⟩:=hm
   replace hm:=inv_vAgg hm;obtain ⟨l0,rfl,hm⟩:=hm
   replace hm:=ll_uncons hm;obtain ⟨v2,l5496_0,rfl,hm⟩:=hm
   replace hm:=ll_uncons hm;obtain ⟨v3,l5496_1,rfl,hm⟩:=hm
   replace hm:=ll_uncons hm;obtain ⟨v4,l5496_2,rfl,hm⟩:=hm
   replace hm:=ll_uncons hm;obtain ⟨v5,l5496_3,rfl,hm⟩:=hm
   replace hm:=ll_uncons hm;obtain ⟨v6,l5496_4,rfl,hm⟩:=hm
   replace hm:=ll_uncons hm;obtain ⟨v7,l5496_5,rfl,hm⟩:=hm
   replace hm:=ll_uncons hm;obtain ⟨v8,l5496_6,rfl,hm⟩:=hm
   replace hm:=ll_uncons hm;obtain ⟨v9,l5496_7,rfl,hm⟩:=hm
   replace hm:=ll_uncons hm;obtain ⟨v10,l5496_8,rfl,hm⟩:=hm
   replace hm:=ll_uncons hm;obtain ⟨v11,l5496_9,rfl,hm⟩:=hm
   replace hm:=ll_uncons hm;obtain ⟨v12,l5496_10,rfl,hm⟩:=hm
   replace hm:=ll_uncons hm;obtain ⟨v13,l5496_11,rfl,hm⟩:=hm
   replace hm:=ll_uncons hm;obtain ⟨v14,l5496_12,rfl,hm⟩:=hm
   replace hm:=ll_uncons hm;obtain ⟨v15,l5496_13,rfl,hm⟩:=hm
   replace hm:=ll_uncons hm;obtain ⟨v16,l5496_14,rfl,hm⟩:=hm
   replace hm:=ll_uncons hm;obtain ⟨v17,l5496_15,rfl,hm⟩:=hm
   replace hm:=ll_uncons hm;obtain ⟨v18,l5496_16,rfl,hm⟩:=hm
   replace hm:=ll_uncons hm;obtain ⟨v19,l5496_17,rfl,hm⟩:=hm
   replace hm:=ll_uncons hm;obtain ⟨v20,l5496_18,rfl,hm⟩:=hm
   replace hm:=ll_uncons hm;obtain ⟨v21,l5496_19,rfl,hm⟩:=hm
   replace hm:=ll_uncons hm;obtain ⟨v22,l5496_20,rfl,hm⟩:=hm
   replace hm:=ll_uncons hm;obtain ⟨v23,l5496_21,rfl,hm⟩:=hm
   replace hm:=ll_end hm;obtain ⟨rfl,hm⟩:=hm
   replace hm:=inv_toI hm;obtain ⟨x1,rfl,hm⟩:=hm
   replace hm:=inv_toI hm;obtain ⟨x2,rfl,hm⟩:=hm
   replace hm:=inv_toI hm;obtain ⟨x3,rfl,hm⟩:=hm
   replace hm:=inv_toI hm;obtain ⟨x4,rfl,hm⟩:=hm
   replace hm:=inv_toI hm;obtain ⟨x5,rfl,hm⟩:=hm
   replace hm:=inv_toI hm;obtain ⟨x6,rfl,hm⟩:=hm
   replace hm:=inv_toI hm;obtain ⟨x7,rfl,hm⟩:=hm
   replace hm:=inv_toI hm;obtain ⟨x8,rfl,hm⟩:=hm
   replace hm:=inv_toI hm;obtain ⟨x9,rfl,hm⟩:=hm
   replace hm:=inv_toI hm;obtain ⟨x10,rfl,hm⟩:=hm
   replace hm:=inv_toI hm;obtain ⟨x11,rfl,hm⟩:=hm
   replace hm:=inv_toI hm;obtain ⟨x12,rfl,hm⟩:=hm
   replace hm:=inv_toI hm;obtain ⟨x13,rfl,hm⟩:=hm
   replace hm:=inv_toI hm;obtain ⟨x14,rfl,hm⟩:=hm
   replace hm:=inv_toI hm;obtain ⟨x15,rfl,hm⟩:=hm
   replace hm:=inv_toI hm;obtain ⟨x16,rfl,hm⟩:=hm
   replace hm:=inv_toI hm;obtain ⟨x17,rfl,hm⟩:=hm
   replace hm:=inv_toI hm;obtain ⟨x18,rfl,hm⟩:=hm
   replace hm:=inv_toI hm;obtain ⟨x19,rfl,hm⟩:=hm
   replace hm:=inv_toI hm;obtain ⟨x20,rfl,hm⟩:=hm
   replace hm:=inv_toI hm;obtain ⟨x21,rfl,hm⟩:=hm
   replace hm:=inv_toI hm;obtain ⟨x22,rfl,hm⟩:=hm
   replace hm:=oo_inv hm;obtain ⟨v24,h4,hm⟩:=hm
   replace hm:=inv_toSl hm;obtain ⟨s1,rfl,hm⟩:=hm
   refine .reg (eC 1 ((oo (pu 24 [Sl.v 1 s0]) none fun v=>some (v,(hp 1 [(.map ([]:List Ent) 0)])))) (call_eq h3) (eD ((oo (pu 25 [(.agg ⟨[zI x1,zI x2,zI x3,zI x4,zI x5,zI x6,zI x7,zI x8,zI x9,zI x10,zI x11,zI x12,zI x13,zI x14,zI x15,zI x16,zI x17,zI x18,zI x19,zI x20,zI x21,zI x22]⟩)]) none fun v=>some (v,(hp 1 [(.map ([]:List Ent) 0)])))) (call_eq h4) (eE))) ?_
   refine .ghs (fr 65 [(5,(.map (some 0))),(6,(.slice none 0 0)),(21,Sl.v 1 s1),(22,(zI (Int.ofNat (Sl.n s1)))),(23,(zI (0:Int)))]) (hp 1 [(.map ([]:List Ent) 0)]) (.k [0] [] [.tmp 5 false] [5,6,21,22,23] ⟨trF h2,trivial⟩) ?_
   refine .block ?_
   refine .loopM (v:=v) (fun y:Nat×Nat×Sl×Int×Int×List Ent×Nat×LV=>((fr 65 [(5,(.map (some 0))),(6,(sc 1 0 22 y.1 y.2.1)),(21,(Sl.v 1 y.2.2.1)),(22,(zI y.2.2.2.1)),(23,(zI y.2.2.2.2.1))]),(hp 2 [(.map y.2.2.2.2.2.1 y.2.2.2.2.2.2.1),(oC y.2.2.2.2.2.2.2)]))) (fun w y=>l6_6 pu n w y.1 y.2.1 y.2.2.1 y.2.2.2.1 y.2.2.2.2.1 y.2.2.2.2.2.1 y.2.2.2.2.2.2.1 y.2.2.2.2.2.2.2) n ⟨(0,0,s1,(Int.ofNat (Sl.n s1)),(0:Int),([]:List Ent),0,([]:LV)),hm,(.thaw 6 22 (by kernel_rfl) (.k [0] [] [.tmp 5 false,.tmp 6 false] [5,6,21,22,23] ⟨trF h2,trivial⟩))⟩ (fun _=>rfl) ?_
   rintro w0 ⟨n1,c1,s2,z0,z1,e1,k2,q2⟩ hm
   replace hm:b6_6 pu n (l6_6 pu n w0) n1 c1 s2 z0 z1 e1 k2 q2 = some v:=hm
   unfold b6_6 at hm
   refine .then (.rK ?_)
   replace hm:=bb_inv hm;obtain ⟨h5,hm⟩:=hm
   replace hm:=bb_inv hm;obtain ⟨h6,hm⟩:=hm
   refine .ghs (fr 65 [(5,(.map (some 0))),(6,sc 1 0 22 n1 c1),(21,Sl.v 1 s2),(22,zI z0),(23,zI z1),(24,(zB (ilt z1 z0)))]) (hp 2 [(.map e1 k2),oC q2]) (.k [0,1] [] [.tmp 5 false,.tmp 6 false] [5,6,21,22,23,24] ⟨trF h5,trF h6,trivial⟩) ?_
   refine .then ?_
   replace hm:=bb_cases hm;rcases hm with ⟨h7,hm⟩ | ⟨h7,hm⟩
   ·refine .ifT (ilt z1 z0) (by kernel_rfl) h7 ?_
    refine .skip ?_
    refine .ghs (fr 65 [(5,(.map (some 0))),(6,sc 1 0 22 n1 c1),(21,Sl.v 1 s2),(22,zI z0),(23,zI z1)]) (hp 2 [(.map e1 k2),oC q2]) (.k [0,1] [] [.tmp 5 false,.tmp 6 false] [5,6,21,22,23] ⟨trF h5,trF h6,trivial⟩) ?_
    refine .then ?_
    refine .block ?_
    refine .then ?_
    replace hm:=oo_inv hm;obtain ⟨k3,h8,hm⟩:=hm
    obtain rfl:=toN_some h8
    replace hm:=bb_inv hm;obtain ⟨h9,hm⟩:=hm
    replace hm:=oo_inv hm;obtain ⟨v25,h10,hm⟩:=hm
    replace hm:=inv_toSl hm;obtain ⟨s3,rfl,hm⟩:=hm
    refine .reg (eD (keep (hp 2 [(.map e1 k2),oC q2]) (bb (an (Nat.blt k3 (Sl.n s2)) true) (some (fpV (k3 * 1) (Sl.cs s2))) none)) (keep_bb h9) (eD (keep (hp 2 [(.map e1 k2),oC q2]) (nthL (Sl.cs s2) (k3 * 1))) (keep_eq h10) (eE))) ?_
    refine .ghs (fr 65 [(5,(.map (some 0))),(6,sc 1 0 22 n1 c1),(8,Sl.v 1 s3),(21,Sl.v 1 s2),(22,zI z0),(23,(zI (Int.ofNat k3)))]) (hp 2 [(.map e1 k2),oC q2]) (.k [0,1] [] [.tmp 5 false,.tmp 6 false] [5,6,8,21,22,23] ⟨trF h5,trF h6,trivial⟩) ?_
    refine .then ?_
    replace hm:=oo_inv hm;obtain ⟨v26,h11,hm⟩:=hm
    replace hm:=inv_vAgg hm;obtain ⟨l1,rfl,hm⟩:=hm
    replace hm:=ll_uncons hm;obtain ⟨v27,l5665_0,rfl,hm⟩:=hm
    replace hm:=ll_uncons hm;obtain ⟨v28,l5665_1,rfl,hm⟩:=hm
    replace hm:=ll_uncons hm;obtain ⟨v29,l5665_2,rfl,hm⟩:=hm
    replace hm:=ll_uncons hm;obtain ⟨v30,l5665_3,rfl,hm⟩:=hm
    replace hm:=ll_uncons hm;obtain ⟨v31,l5665_4,rfl,hm⟩:=hm
    replace hm:=ll_uncons hm;obtain ⟨v32,l5665_5,rfl,hm⟩:=hm
    replace hm:=ll_uncons hm;obtain ⟨v33,l5665_6,rfl,hm⟩:=hm
    replace hm:=ll_uncons hm;obtain ⟨v34,l5665_7,rfl,hm⟩:=hm
    replace hm:=ll_uncons hm;obtain ⟨v35,l5665_8,rfl,hm⟩:=hm
    replace hm:=ll_uncons hm;obtain ⟨v36,l5665_9,rfl,hm⟩:=hm
    replace hm:=ll_uncons hm;obtain ⟨v37,l5665_10,rfl,hm⟩:=hm
    replace hm:=ll_uncons hm;obtain ⟨v38,l5665_11,rfl,hm⟩:=hm
    replace hm:=ll_uncons hm;obtain ⟨v39,l5665_12,rfl,hm⟩:=hm
    replace hm:=ll_uncons hm;obtain ⟨v40,l5665_13,rfl,hm⟩:=hm
    replace hm:=ll_uncons hm;obtain ⟨v41,l5665_14,rfl,hm⟩:=hm
    replace hm:=ll_uncons hm;obtain ⟨v42,l5665_15,rfl,hm⟩:=hm
    replace hm:=ll_uncons hm;obtain ⟨v43,l5665_16,rfl,hm⟩:=hm
    replace hm:=ll_uncons hm;obtain ⟨v44,l5665_17,rfl,hm⟩:=hm
    replace hm:=ll_uncons hm;obtain ⟨v45,l5665_18,rfl,hm⟩:=hm
    replace hm:=ll_uncons hm;obtain ⟨v46,l5665_19,rfl,hm⟩:=hm
    replace hm:=ll_uncons hm;obtain ⟨v47,l5665_20,rfl,hm⟩:=hm
    replace hm:=ll_uncons hm;obtain ⟨v48,l5665_21,rfl,hm⟩:=hm
    replace hm:=ll_end hm;obtain ⟨rfl,hm⟩:=hm
    replace hm:=inv_toI hm;obtain ⟨x23,rfl,hm⟩:=hm
    replace hm:=inv_toI hm;obtain ⟨x24,rfl,hm⟩:=hm
    replace hm:=inv_toI hm;obtain ⟨x25,rfl,hm⟩:=hm
    replace hm:=inv_toI hm;obtain ⟨x26,rfl,hm⟩:=hm
    replace hm:=inv_toI hm;obtain ⟨x27,rfl,hm⟩:=hm
    replace hm:=inv_toI hm;obtain ⟨x28,rfl,hm⟩:=hm
    replace hm:=inv_toI hm;obtain ⟨x29,rfl,hm⟩:=hm
    replace hm:=inv_toI hm;obtain ⟨x30,rfl,hm⟩:=hm
    replace hm:=inv_toI hm;obtain ⟨x31,rfl,hm⟩:=hm
    replace hm:=inv_toI hm;obtain ⟨x32,rfl,hm⟩:=hm
    replace hm:=inv_toI hm;obtain ⟨x33,rfl,hm⟩:=hm
    replace hm:=inv_toI hm;obtain ⟨x34,rfl,hm⟩:=hm
    replace hm:=inv_toI hm;obtain ⟨x35,rfl,hm⟩:=hm
    replace hm:=inv_toI hm;obtain ⟨x36,rfl,hm⟩:=hm
    replace hm:=inv_toI hm;obtain ⟨x37,rfl,hm⟩:=hm
    replace hm:=inv_toI hm;obtain ⟨x38,rfl,hm⟩:=hm
    replace hm:=inv_toI hm;obtain ⟨x39,rfl,hm⟩:=hm
    replace hm:=inv_toI hm;obtain ⟨x40,rfl,hm⟩:=hm
    replace hm:=inv_toI hm;obtain ⟨x41,rfl,hm⟩:=hm
    replace hm:=inv_toI hm;obtain ⟨x42,rfl,hm⟩:=hm
    replace hm:=inv_toI hm;obtain ⟨x43,rfl,hm⟩:=hm
    replace hm:=inv_toI hm;obtain ⟨x44,rfl,hm⟩:=hm
    refine .reg (eC 1 ((oo (pu 24 [Sl.v 1 s3]) none fun v=>some (v,(hp 2 [(.map e1 k2),oC q2])))) (call_eq h11) (eE)) ?_
    refine .ghs (fr 65 [(5,(.map (some 0))),(6,sc 1 0 22 n1 c1),(9,(pt 2 0)),(21,Sl.v 1 s2),(22,zI z0),(23,(zI (Int.ofNat k3)))]) (hp 3 [(.map e1 k2),oC q2,(oC [zI x23,zI x24,zI x25,zI x26,zI x27,zI x28,zI x29,zI x30,zI x31,zI x32,zI x33,zI x34,zI x35,zI x36,zI x37,zI x38,zI x39,zI x40,zI x41,zI x42,zI x43,zI x44])]) (.k [0,1] [] [.tmp 5 false,.tmp 6 false,.tmp 9 false] [5,6,9,21,22,23] ⟨trF h5,trF h6,trivial⟩) ?_
    refine .then ?_
    replace hm:=oo_inv hm;obtain ⟨r0,h12,hm⟩:=hm
    refine .reg (eC 2 (done (oo (findE (.agg ⟨[zI x23,zI x24,zI x25,zI x26,zI x27,zI x28,zI x29,zI x30,zI x31,zI x32,zI x33,zI x34,zI x35,zI x36,zI x37,zI x38,zI x39,zI x40,zI x41,zI x42,zI x43,zI x44]⟩) e1 0) none fun r=>oo r (some (AHeap.set (hp 3 [(.map e1 k2),oC q2,(oC [zI x23,zI x24,zI x25,zI x26,zI x27,zI x28,zI x29,zI x30,zI x31,zI x32,zI x33,zI x34,zI x35,zI x36,zI x37,zI x38,zI x39,zI x40,zI x41,zI x42,zI x43,zI x44])]) 0 (.map (appL e1 [⟨(.agg ⟨[zI x23,zI x24,zI x25,zI x26,zI x27,zI x28,zI x29,zI x30,zI x31,zI x32,zI x33,zI x34,zI x35,zI x36,zI x37,zI x38,zI x39,zI x40,zI x41,zI x42,zI x43,zI x44]⟩),zB true,k2⟩]) (k2 + 1)))) fun p=>pp p fun j _=>some (AHeap.set (hp 3 [(.map e1 k2),oC q2,(oC [zI x23,zI x24,zI x25,zI x26,zI x27,zI x28,zI x29,zI x30,zI x31,zI x32,zI x33,zI x34,zI x35,zI x36,zI x37,zI x38,zI x39,zI x40,zI x41,zI x42,zI x43,zI x44])]) 0 (.map (modL (fun e=>⟨(.agg ⟨[zI x23,zI x24,zI x25,zI x26,zI x27,zI x28,zI x29,zI x30,zI x31,zI x32,zI x33,zI x34,zI x35,zI x36,zI x37,zI x38,zI x39,zI x40,zI x41,zI x42,zI x43,zI x44]⟩),zB true,e.born⟩) j e1) k2))) undef) (upd_eq (H2:=(hp 3 [(.map (updE (.agg ⟨[zI x23,zI x24,zI x25,zI x26,zI x27,zI x28,zI x29,zI x30,zI x31,zI x32,zI x33,zI x34,zI x35,zI x36,zI x37,zI x38,zI x39,zI x40,zI x41,zI x42,zI x43,zI x44]⟩) (zB true) k2 e1 r0) (updC k2 r0)),oC q2,(oC [zI x23,zI x24,zI x25,zI x26,zI x27,zI x28,zI x29,zI x30,zI x31,zI x32,zI x33,zI x34,zI x35,zI x36,zI x37,zI x38,zI x39,zI x40,zI x41,zI x42,zI x43,zI x44])])) h12) (eE)) ?_
    replace hm:=bb_inv hm;obtain ⟨h13,hm⟩:=hm
    refine .ghs (fr 65 [(5,(.map (some 0))),(6,sc 1 0 22 n1 c1),(9,(pt 2 0)),(21,Sl.v 1 s2),(22,zI z0),(23,(zI (Int.ofNat k3)))]) (hp 3 [(.map (updE (.agg ⟨[zI x23,zI x24,zI x25,zI x26,zI x27,zI x28,zI x29,zI x30,zI x31,zI x32,zI x33,zI x34,zI x35,zI x36,zI x37,zI x38,zI x39,zI x40,zI x41,zI x42,zI x43,zI x44]⟩) (zB true) k2 e1 r0) (updC k2 r0)),oC q2,(oC [zI x23,zI x24,zI x25,zI x26,zI x27,zI x28,zI x29,zI x30,zI x31,zI x32,zI x33,zI x34,zI x35,zI x36,zI x37,zI x38,zI x39,zI x40,zI x41,zI x42,zI x43,zI x44])]) (.k [0,1] [] [.tmp 5 false,.tmp 6 false,.tmp 9 false] [5,6,9,21,22,23] ⟨trF h13,trF h6,trivial⟩) ?_
    replace hm:=bb_inv hm;obtain ⟨h14,hm⟩:=hm
    refine .reg (eC 3 (growD 22 176 n1 c1 1 1 q2 [zI x23,zI x24,zI x25,zI x26,zI x27,zI x28,zI x29,zI x30,zI x31,zI x32,zI x33,zI x34,zI x35,zI x36,zI x37,zI x38,zI x39,zI x40,zI x41,zI x42,zI x43,zI x44] [] (hp 4 [(.map (updE (.agg ⟨[zI x23,zI x24,zI x25,zI x26,zI x27,zI x28,zI x29,zI x30,zI x31,zI x32,zI x33,zI x34,zI x35,zI x36,zI x37,zI x38,zI x39,zI x40,zI x41,zI x42,zI x43,zI x44]⟩) (zB true) k2 e1 r0) (updC k2 r0)),oC q2,(oC [zI x23,zI x24,zI x25,zI x26,zI x27,zI x28,zI x29,zI x30,zI x31,zI x32,zI x33,zI x34,zI x35,zI x36,zI x37,zI x38,zI x39,zI x40,zI x41,zI x42,zI x43,zI x44]),(oC [zI x23,zI x24,zI x25,zI x26,zI x27,zI x28,zI x29,zI x30,zI x31,zI x32,zI x33,zI x34,zI x35,zI x36,zI x37,zI x38,zI x39,zI x40,zI x41,zI x42,zI x43,zI x44])])) (growD_eq h14) (eE)) ?_
    replace hm:=bb_inv hm;obtain ⟨h15,hm⟩:=hm
    refine .ghs (fr 65 [(5,(.map (some 0))),(6,(sc 1 0 22 (n1 + 1) (d2 (n1 + 1)))),(21,Sl.v 1 s2),(22,zI z0),(23,(zI (Int.ofNat k3)))]) (hp 2 [(.map (updE (.agg ⟨[zI x23,zI x24,zI x25,zI x26,zI x27,zI x28,zI x29,zI x30,zI x31,zI x32,zI x33,zI x34,zI x35,zI x36,zI x37,zI x38,zI x39,zI x40,zI x41,zI x42,zI x43,zI x44]⟩) (zB true) k2 e1 r0) (updC k2 r0)),(oC (appL (dropL 0 q2) [zI x23,zI x24,zI x25,zI x26,zI x27,zI x28,zI x29,zI x30,zI x31,zI x32,zI x33,zI x34,zI x35,zI x36,zI x37,zI x38,zI x39,zI x40,zI x41,zI x42,zI x43,zI x44]))]) (.k [0,4] [] [.tmp 5 false,.tmp 6 false] [5,6,21,22,23] ⟨trF h13,trF h15,trivial⟩) ?_
    refine .rK ?_
    exact ⟨((n1 + 1),(d2 (n1 + 1)),s2,z0,(wrapF .i64 (Int.add (Int.ofNat k3) (1:Int))),(updE (.agg ⟨[zI x23,zI x24,zI x25,zI x26,zI x27,zI x28,zI x29,zI x30,zI x31,zI x32,zI x33,zI x34,zI x35,zI x36,zI x37,zI x38,zI x39,zI x40,zI x41,zI x42,zI x43,zI x44]⟩) (zB true) k2 e1 r0),(updC k2 r0),(appL (dropL 0 q2) [zI x23,zI x24,zI x25,zI x26,zI x27,zI x28,zI x29,zI x30,zI x31,zI x32,zI x33,zI x34,zI x35,zI x36,zI x37,zI x38,zI x39,zI x40,zI x41,zI x42,zI x43,zI x44])),hm,(.k [0,1] [] [.tmp 5 false,.tmp 6 false] [5,6,21,22,23] ⟨trF h13,trF h15,trivial⟩)⟩
   ·refine .ifF (ilt z1 z0) (by kernel_rfl) h7 ?_
    refine .exit ?_
    exact ⟨(n1,c1,e1,k2,q2),hm,(.k [0,1] [] [.tmp 5 false,.tmp 6 false] [5,6] ⟨trF h5,trF h6,trivial⟩)⟩
end
end Go.HvRM
