/- Made from wip. -/
import Derived.Test.YtkhedoaiejjcfaaGreatHzLNodesx
import Derived.Test.YtkhedoaiejjcfaaGreatHzLCode
import Derived.KernelRfl

set_option maxRecDepth 100000
namespace Go.Sp
theorem Weak.cap (id off sz ln m:Nat):Weak (.slice (some ⟨id,off,some sz⟩) ln (2 * m + 1)) (.slice (some ⟨id,off,some sz⟩) ln (2 * m)):=fun R u h=>by
 have e1:(2 * m + 1) / 2 = m:=by omega
 have e2:2 * m / 2 = m:=by omega
 cases h with
 | sl h h1 h2 h3 h4 =>
  rw [e1] at h1 h2
  exact .sl h (by rw [e2];exact h1) (by rw [e2];exact h2) (fun h=>by omega) h4
 | slE h=>exact .slE (by omega)
 | slN h=>exact .slN (by omega)
end Go.Sp
namespace Go.HzLM
open Go.Sp Go.HzL
noncomputable section
def orc68 (args:List Value):Option Value:=
 ll args none fun a r => ll r none fun b r => ll r (oo (toSl 1 a) none fun s => oo (toI .i64 b) none fun z => oo (toN z) none fun k => ll s.cs none fun x r => ll r (oo (toI .i64 x) none fun y => bb (an (Nat.beq s.n 1) (Nat.ble k 21))
  (some (Sl.v 1 ⟨k,0,zeroRow [.int .i64 y] k⟩)) none) fun _ _=>none) fun _ _=>none
def orc60 (args:List Value):Option Value:=
 ll args none fun a r=>ll r (oo (toSl 1 a) none fun s=>ll s.cs none fun x r=>ll r none fun y r=>ll r (oo (toSl 1 x) none fun u=>oo (toSl 1 y) none fun v=>oo (mapO (toSl 1) u.cs) none fun us=>oo (mapO (toSl 1) v.cs) none fun vs=>
  bb (an (Nat.beq s.n 2) (an (Nat.beq s.fl 0) (an (Nat.beq u.fl 0) (an (Nat.beq v.fl 0) (an (Nat.beq u.n (len us)) (an (Nat.beq v.n (len vs)) (an (Nat.ble 1 (len us)) (Nat.ble (len us + len vs) 7))))))))
   (some (Sl.v 1 ⟨len us + len vs,0,appL u.cs v.cs⟩)) none) fun _ _=>none) fun _ _=>none
def orc16 (_:List Value):Option Value:=none
def orc8 (_:List Value):Option Value:=none
def orc25 (_:List Value):Option Value:=none
def identF (args:List Value) (H:AHeap):Option (Value×AHeap):=ll args none fun a r=>ll r (AHeap.rec (motive:=fun _=>Option (Value×AHeap)) (fun k T z=>bb z (some (a,⟨k,T,true⟩)) none) H) fun _ _=>none
theorem identEv (a:Value) (k:Nat) (T:Tr AObj):evFn tt fns 2 42 [a] ⟨k,T,true⟩ = some (a,⟨k,T,true⟩):=by kernel_rfl
theorem ident42_ok {P : Program} (hT : TOk P tt) (hf : ∀ f r, fns f = some r → FnOk P [] f r) (hm : P.follows .mixedOrders = true) {args : List Value} {H H' : AHeap} {v : Value} (h : identF args H = some (v, H')) :
 (∀ (as:Array Value) (w:World),(callFunc 42 as).run P w = .ok (.enter 42 as) w) ∧
 ∀ R w args',Sim H R w→GlR [] R→VRL R args args'→Calls P 42 ⟨args'⟩ w fun e w'=>∃ u R',e = .returned u∧VR R' v u∧Post H R w H' R' w':=by
 obtain ⟨a,r,rfl,h⟩:=ll_uncons h
 obtain ⟨rfl,h⟩:=ll_end h
 obtain ⟨k,T,z⟩:=H
 obtain ⟨hz,h⟩:=bb_inv (show bb z _ none = some _ from h)
 subst hz
 injection h with h
 injection h with h1 h2
 subst h1;subst h2
 exact (evFn_ok hT hf hm 2) 42 _ _ _ _ (identEv a k T)
end
end Go.HzLM
set_option maxRecDepth 100000
set_option maxHeartbeats 20000000
set_option linter.unusedVariables false
namespace Go.HzLM
open Go.Sp Go.HzL
noncomputable section
def tabs:List (List Value):=[]
theorem trF {a b:Bool} (h:b = true) (e:a = b:=by kernel_rfl):a = true:=e.trans h
abbrev OV:=Option Value
abbrev LV:=List Value
def plist:List Nat:=[6,7,8,12,13,14,15,16,24,25,27,28,29,30,31,36,41,55,57,59,63,65]
def isP:FuncId→Bool:=fun g=>memN g plist
def inl (pu:PureF):CallF:=fun g args H=>bb (Nat.beq g 42) (identF args H) (bb (Nat.beq g 43) (sortF args H) (bb (Nat.beq g 56) (liveF tabs 1 (pu 56) args H) (bb (Nat.beq g 60) (giveF tabs 1 (pu 60) args H) (bb (Nat.beq g 68) (giveF tabs 1 (pu 68) args H) (bb (Nat.beq g 44) (objG tabs [[none]] 1 [.tmp 0 false] [false] (pu 10440) args H) (none))))))
def zA54:LV:=[(.int .i64 (0:Int)),(.int .i64 (0:Int)),(.int .i64 (0:Int)),(.int .i64 (0:Int)),(.int .i64 (0:Int)),(.int .i64 (0:Int)),(.int .i64 (0:Int)),(.int .i64 (0:Int)),(.int .i64 (0:Int)),(.int .i64 (0:Int)),(.int .i64 (0:Int)),(.int .i64 (0:Int)),(.int .i64 (0:Int)),(.int .i64 (0:Int)),(.int .i64 (0:Int)),(.int .i64 (0:Int)),(.int .i64 (0:Int)),(.int .i64 (0:Int)),(.int .i64 (0:Int)),(.int .i64 (0:Int)),(.int .i64 (0:Int)),(.int .i64 (0:Int))]
end
end Go.HzLM
set_option maxRecDepth 100000
set_option maxHeartbeats 20000000
set_option linter.unusedVariables false
namespace Go.HzLM
open Go.Sp Go.HzL
noncomputable section
def m6_1 (pu:PureF) (n:Nat) (b0:Bool):OV:=
 (bb b0 (some (.bool false)) (oo (pu 16 []) none fun v0=>(oo (vBool v0) none fun b1=>(some (.bool b1)))))
def m6_0 (pu:PureF) (n:Nat) (z0 z1:Int) (s0:Sl):OV:=
 (oo (pu 25 [.int .i64 z0]) none fun v0=>(oo (vTup v0) none fun l0=>(ll l0 none fun v1 l0=>(ll l0 none fun v2 l0=>(ll l0 none fun v3 l0=>(ll l0 (oo (toI .i64 v1) none fun x0=>(oo (toSl 1 v2) none fun s1=>(oo (toI .i64 v3) none fun x1=>(oo (pu 7 [.int .i64 z0]) none fun v4=>(oo (toI .i64 v4) none fun x2=>(bb (nt (ieq x1 (0:Int))) (m6_1 pu n true) (bb (nt (ieq x0 z1)) (m6_1 pu n true) (oo (pu 14 [Sl.v 1 s1,Sl.v 1 s0]) none fun v5=>(oo (vBool v5) none fun b0=>(bb (nt b0) (m6_1 pu n true) (bb (ieq z0 (wrapF .i64 (Int.tdiv (wrapF .i64 (Int.mul x2 (wrapF .i64 (Int.add x2 (1:Int))))) (2:Int)))) (m6_1 pu n (nt (ieq x0 (wrapF .i64 (Int.mul x2 (wrapF .i64 (Int.sub x2 (1:Int)))))))) (m6_1 pu n false)))))))))))) fun _ _=>none))))))
def m6_3 (pu:PureF) (n:Nat) (ih0:Int→Int→Sl→Sl→Int→Int→OV) (z0 z1:Int) (s0 s1:Sl) (z2 z3:Int):OV:=
 (ih0 z0 z1 s0 s1 z2 (wrapF .i64 (Int.add z3 (1:Int))))
def m6_4 (pu:PureF) (n:Nat) (ih0:Int→Int→Sl→Sl→Int→Int→OV) (z0 z1:Int) (s0 s1:Sl) (z2:Int) (s2:Sl) (z3 z4:Int):OV:=
 (bb (ilt z1 z2) (m6_3 pu n ih0 z0 z2 s1 s2 z3 z4) (m6_3 pu n ih0 z0 z1 s0 s2 z3 z4))
def b6_5 (pu:PureF) (n:Nat) (ih0:Int→Int→Sl→Sl→Int→Int→OV) (ih1:Int→Int→Sl→Sl→Sl→Int→Sl→Int→Int→OV) (z0 z1:Int) (s0 s1 s2:Sl) (z2:Int) (s3:Sl) (z3 z4:Int):OV:=
 (oo (pu 24 [Sl.v 1 s2]) none fun v0=>(oo (vBool v0) none fun b0=>(bb (nt b0) (oo (pu 15 [Sl.v 1 s2]) none fun v1=>(oo (toSl 1 v1) none fun s4=>(ih1 z0 z1 s0 s1 s4 (wrapF .i64 (Int.add z2 (1:Int))) s3 z3 z4))) (m6_4 pu n ih0 z0 z1 s0 s1 z2 s3 z3 z4))))
def l6_5 (pu:PureF) (n:Nat) (ih0:Int→Int→Sl→Sl→Int→Int→OV) (w:Nat):Int→Int→Sl→Sl→Sl→Int→Sl→Int→Int→OV:=
 Nat.rec (motive:=fun _=>Int→Int→Sl→Sl→Sl→Int→Sl→Int→Int→OV) (fun _ _ _ _ _ _ _ _ _=>none) (fun _ ih1=>b6_5 pu n ih0 ih1) w
def b6_2 (pu:PureF) (n:Nat) (ih0:Int→Int→Sl→Sl→Int→Int→OV) (z0 z1:Int) (s0 s1:Sl) (z2 z3:Int):OV:=
 (bb (ilt z3 z2) (oo (toN z3) none fun k1=>(bb (an (Nat.blt k1 (Sl.n s1)) true) (oo (nthL (Sl.cs s1) (k1 * 1)) none fun v0=>(oo (toSl 1 v0) none fun s2=>(l6_5 pu n ih0 n z0 z1 s0 s2 s2 (0:Int) s1 z2 (Int.ofNat k1)))) none)) (m6_0 pu n z0 z1 s0))
def l6_2 (pu:PureF) (n w:Nat):Int→Int→Sl→Sl→Int→Int→OV:=
 Nat.rec (motive:=fun _=>Int→Int→Sl→Sl→Int→Int→OV) (fun _ _ _ _ _ _=>none) (fun _ ih0=>b6_2 pu n ih0) w
def m6_ (pu:PureF) (n:Nat) (x1:Int):OV:=
 (oo (pu 8 [(.int .i64 (wrapF .i64 (Int.add (1:Int) (Int.tmod (wrapF .i64 x1) (15:Int)))))]) none fun v0=>(oo (toSl 1 v0) none fun s0=>(l6_2 pu n n (wrapF .i64 (Int.add (1:Int) (Int.tmod (wrapF .i64 x1) (15:Int)))) (-1:Int) (Sl.mk 0 2 []) s0 (Int.ofNat (Sl.n s0)) (0:Int))))
def m6 (pu:PureF) (n:Nat) (args:LV):OV:=
 (ll args none fun a0 args=>(ll args (oo (toI .u8 a0) none fun x1=>(m6_ pu n x1)) fun _ _=>none))
theorem w6_0 (pu:PureF) (n:Nat) (z0 z1:Int) (s0:Sl) {v:Value} (hm:m6_0 pu n z0 z1 s0 = some v):Run tt (callP tabs isP pu (inl pu)) 0 c6_45 (fr 78 [(3,zI z0),(4,zI z1),(5,Sl.v 1 s0)]) (hp 0 []) (Fin tt 0 [.tmp 2] v):=by
 unfold m6_0 at hm
 refine .then ?_
 replace hm:=oo_inv hm;obtain ⟨v0,h0,hm⟩:=hm
 replace hm:=inv_vTup hm;obtain ⟨l0,rfl,hm⟩:=hm
 replace hm:=ll_uncons hm;obtain ⟨v1,l192_0,rfl,hm⟩:=hm
 replace hm:=ll_uncons hm;obtain ⟨v2,l192_1,rfl,hm⟩:=hm
 replace hm:=ll_uncons hm;obtain ⟨v3,l192_2,rfl,hm⟩:=hm
 replace hm:=ll_end hm;obtain ⟨rfl,hm⟩:=hm
 replace hm:=inv_toI hm;obtain ⟨x0,rfl,hm⟩:=hm
 replace hm:=inv_toSl hm;obtain ⟨s1,rfl,hm⟩:=hm
 replace hm:=inv_toI hm;obtain ⟨x1,rfl,hm⟩:=hm
 refine .reg (eC 1 ((oo (pu 25 [zI z0]) none fun v=>some (v,(hp 0 [])))) (call_eq h0) (eE)) ?_
 refine .ghs (fr 78 [(3,zI z0),(4,zI z1),(5,Sl.v 1 s0),(10,zI x0),(11,Sl.v 1 s1),(12,zI x1)]) (hp 0 []) (.k0 [] [] [3,4,5,10,11,12]) ?_
 refine .then ?_
 replace hm:=oo_inv hm;obtain ⟨v4,h1,hm⟩:=hm
 replace hm:=inv_toI hm;obtain ⟨x2,rfl,hm⟩:=hm
 refine .reg (eC 1 ((oo (pu 7 [zI z0]) none fun v=>some (v,(hp 0 [])))) (call_eq h1) (eE)) ?_
 refine .ghs (fr 78 [(3,zI z0),(4,zI z1),(5,Sl.v 1 s0),(10,zI x0),(11,Sl.v 1 s1),(12,zI x1),(13,zI x2)]) (hp 0 []) (.k0 [] [] [3,4,5,10,11,12,13]) ?_
 refine .then ?_
 refine .join (v:=v) (fun y:Bool=>((fr 78 [(76,zB y)]),(hp 0 []))) (fun y=>m6_1 pu n y) ?_ ?_
 ·rintro b0 hm
  unfold m6_1 at hm
  replace hm:=bb_cases hm;rcases hm with ⟨h2,hm⟩ | ⟨h2,hm⟩
  ·refine .ifT b0 (by kernel_rfl) h2 ?_
   refine .then (.rK ?_)
   refine .ghs (fr 78 [(2,zB false)]) (hp 0 []) (.k0 [] [] [2]) ?_
   refine .ret ?_
   exact fin_ret (zB false) (by kernel_rfl) (by kernel_rfl) hm
  ·refine .ifF b0 (by kernel_rfl) h2 ?_
   refine .skip ?_
   refine .ghs (fr 78 []) (hp 0 []) (.k0 [] [] []) ?_
   refine .then ?_
   replace hm:=oo_inv hm;obtain ⟨v5,h3,hm⟩:=hm
   replace hm:=inv_vBool hm;obtain ⟨b1,rfl,hm⟩:=hm
   refine .reg (eD ((oo (pu 16 []) none fun v=>some (v,(hp 0 [])))) (call_eq h3) (eE)) ?_
   refine .ghs (fr 78 [(2,zB b1)]) (hp 0 []) (.k0 [] [] [2]) ?_
   refine .ret ?_
   exact fin_ret (zB b1) (by kernel_rfl) (by kernel_rfl) hm
 ·replace hm := bb_cases hm; rcases hm with ⟨h4, hm⟩ | ⟨h4, hm⟩
  ·refine .reg (eC 1 (some ((zB (nt (ieq x1 (0 : Int)))), (hp 0 []))) (show _ = some ((zB true), _) from (by rw [h4])) (eE)) ?_
   exact ⟨true,hm,(.k0 [] [] [76])⟩
  ·replace hm := bb_cases hm; rcases hm with ⟨h5, hm⟩ | ⟨h5, hm⟩
   ·refine .reg (eC 1 (some ((zB (nt (ieq x1 (0 : Int)))), (hp 0 []))) (show _ = some ((zB false), _) from (by rw [h4])) (eC 3 (some ((zB (nt (ieq x0 z1))), (hp 0 []))) (show _ = some ((zB true), _) from (by rw [h5])) (eE))) ?_
    exact ⟨true,hm,(.k0 [] [] [76])⟩
   ·replace hm := oo_inv hm; obtain ⟨v6, h6, hm⟩ := hm
    replace hm:=inv_vBool hm;obtain ⟨b2,rfl,hm⟩:=hm
    replace hm:=bb_cases hm;rcases hm with ⟨h7,hm⟩ | ⟨h7,hm⟩
    ·refine .reg (eC 1 (some ((zB (nt (ieq x1 (0 : Int)))), (hp 0 []))) (show _ = some ((zB false), _) from (by rw [h4])) (eC 3 (some ((zB (nt (ieq x0 z1))), (hp 0 []))) (show _ = some ((zB false), _) from (by rw [h5])) (eC 4 ((oo (pu 14 [Sl.v 1 s1, Sl.v 1 s0]) none fun v => some (v, (hp 0 [])))) (call_eq h6) (eD (some ((zB (nt b2)), (hp 0 []))) (show _ = some ((zB true), _) from (by rw [h7])) (eE))))) ?_
     exact ⟨true,hm,(.k0 [] [] [76])⟩
    ·replace hm := bb_cases hm; rcases hm with ⟨h8, hm⟩ | ⟨h8, hm⟩
     ·refine .reg (eC 1 (some ((zB (nt (ieq x1 (0 : Int)))), (hp 0 []))) (show _ = some ((zB false), _) from (by rw [h4])) (eC 3 (some ((zB (nt (ieq x0 z1))), (hp 0 []))) (show _ = some ((zB false), _) from (by rw [h5])) (eC 4 ((oo (pu 14 [Sl.v 1 s1, Sl.v 1 s0]) none fun v => some (v, (hp 0 [])))) (call_eq h6) (eD (some ((zB (nt b2)), (hp 0 []))) (show _ = some ((zB false), _) from (by rw [h7])) (eC 8 (some ((zB (ieq z0 (wrapF .i64 (Int.tdiv (wrapF .i64 (Int.mul x2 (wrapF .i64 (Int.add x2 (1 : Int))))) (2 : Int))))), (hp 0 []))) (show _ = some ((zB true), _) from (by rw [h8])) (eE)))))) ?_
      exact ⟨(nt (ieq x0 (wrapF .i64 (Int.mul x2 (wrapF .i64 (Int.sub x2 (1:Int))))))),hm,(.k0 [] [] [76])⟩
     ·refine .reg (eC 1 (some ((zB (nt (ieq x1 (0 : Int)))), (hp 0 []))) (show _ = some ((zB false), _) from (by rw [h4])) (eC 3 (some ((zB (nt (ieq x0 z1))), (hp 0 []))) (show _ = some ((zB false), _) from (by rw [h5])) (eC 4 ((oo (pu 14 [Sl.v 1 s1, Sl.v 1 s0]) none fun v => some (v, (hp 0 [])))) (call_eq h6) (eD (some ((zB (nt b2)), (hp 0 []))) (show _ = some ((zB false), _) from (by rw [h7])) (eC 8 (some ((zB (ieq z0 (wrapF .i64 (Int.tdiv (wrapF .i64 (Int.mul x2 (wrapF .i64 (Int.add x2 (1 : Int))))) (2 : Int))))), (hp 0 []))) (show _ = some ((zB false), _) from (by rw [h8])) (eE)))))) ?_
      exact ⟨false,hm,(.k0 [] [] [76])⟩
theorem r6 {call:CallF} (pu:PureF) (n:Nat) (hcall:call = callP tabs isP pu (inl pu)) {args:LV} {v:Value} (hm:m6 pu n args = some v) (_:∀ x ∈ args,closed2 x = true):args.length≤78∧Run tt call 0 c6_50 (Fr.made 78 args) (pureHeap tabs) (Fin tt 0 [.tmp 2] v):=by
 subst hcall
 unfold m6 at hm
 replace hm:=ll_uncons hm;obtain ⟨a0,args_0,rfl,hm⟩:=hm
 replace hm:=ll_end hm;obtain ⟨rfl,hm⟩:=hm
 replace hm:=inv_toI hm;obtain ⟨x1,rfl,hm⟩:=hm
 unfold m6_ at hm
 refine ⟨by simp,?_⟩
 refine .same (F':=(fr 78 [(0,(zY x1))])) (H':=(hp 0 [])) (by kernel_rfl) (by kernel_rfl) ?_
 refine .then (.rK ?_)
 refine .ghs (fr 78 [(0,(zY x1))]) (hp 0 []) (.k0 [] [] [0]) ?_
 refine .then (.rK ?_)
 refine .ghs (fr 78 [(3,(zI (wrapF .i64 (Int.add (1:Int) (Int.tmod (wrapF .i64 x1) (15:Int))))))]) (hp 0 []) (.k0 [] [] [3]) ?_
 refine .then (.rK ?_)
 refine .ghs (fr 78 [(3,(zI (wrapF .i64 (Int.add (1:Int) (Int.tmod (wrapF .i64 x1) (15:Int)))))),(4,(zI (-1:Int)))]) (hp 0 []) (.k0 [] [] [3,4]) ?_
 refine .then (.rK ?_)
 refine .ghs (fr 78 [(3,(zI (wrapF .i64 (Int.add (1:Int) (Int.tmod (wrapF .i64 x1) (15:Int)))))),(4,(zI (-1:Int))),(5,(.slice none 0 0))]) (hp 0 []) (.k0 [] [] [3,4,5]) ?_
 refine .join (v:=v) (fun y:Int×Int×Sl=>((fr 78 [(3,(zI y.1)),(4,(zI y.2.1)),(5,(Sl.v 1 y.2.2))]),(hp 0 []))) (fun y=>m6_0 pu n y.1 y.2.1 y.2.2) ?_ ?_
 ·rintro ⟨z0, z1, s0⟩ hm
  exact w6_0 pu n z0 z1 s0 hm
 ·refine .then ?_
  replace hm:=oo_inv hm;obtain ⟨v0,h0,hm⟩:=hm
  replace hm:=inv_toSl hm;obtain ⟨s1,rfl,hm⟩:=hm
  refine .reg (eC 1 ((oo (pu 8 [(zI (wrapF .i64 (Int.add (1:Int) (Int.tmod (wrapF .i64 x1) (15:Int)))))]) none fun v=>some (v,(hp 0 [])))) (call_eq h0) (eE)) ?_
  refine .ghs (fr 78 [(3,(zI (wrapF .i64 (Int.add (1:Int) (Int.tmod (wrapF .i64 x1) (15:Int)))))),(4,(zI (-1:Int))),(5,(.slice none 0 0)),(19,Sl.v 1 s1),(20,(zI (Int.ofNat (Sl.n s1)))),(21,(zI (0:Int)))]) (hp 0 []) (.k0 [] [] [3,4,5,19,20,21]) ?_
  refine .block ?_
  refine .loopM (v:=v) (fun y:Int×Int×Sl×Sl×Int×Int=>((fr 78 [(3,(zI y.1)),(4,(zI y.2.1)),(5,(Sl.v 1 y.2.2.1)),(19,(Sl.v 1 y.2.2.2.1)),(20,(zI y.2.2.2.2.1)),(21,(zI y.2.2.2.2.2))]),(hp 0 []))) (fun w y=>l6_2 pu n w y.1 y.2.1 y.2.2.1 y.2.2.2.1 y.2.2.2.2.1 y.2.2.2.2.2) n ⟨((wrapF .i64 (Int.add (1:Int) (Int.tmod (wrapF .i64 x1) (15:Int)))),(-1:Int),(Sl.mk 0 2 []),s1,(Int.ofNat (Sl.n s1)),(0:Int)),hm,(.freeze 0 5 1 (by kernel_rfl) (by kernel_rfl) (.k0 [] [] [3,4,5,19,20,21]))⟩ (fun _=>rfl) ?_
  rintro w0 ⟨z2,z3,s2,s3,z4,z5⟩ hm
  replace hm:b6_2 pu n (l6_2 pu n w0) z2 z3 s2 s3 z4 z5 = some v:=hm
  unfold b6_2 at hm
  refine .then (.rK ?_)
  refine .ghs (fr 78 [(3,zI z2),(4,zI z3),(5,Sl.v 1 s2),(19,Sl.v 1 s3),(20,zI z4),(21,zI z5),(22,(zB (ilt z5 z4)))]) (hp 0 []) (.k0 [] [] [3,4,5,19,20,21,22]) ?_
  refine .then ?_
  replace hm:=bb_cases hm;rcases hm with ⟨h1,hm⟩ | ⟨h1,hm⟩
  ·refine .ifT (ilt z5 z4) (by kernel_rfl) h1 ?_
   refine .skip ?_
   refine .ghs (fr 78 [(3,zI z2),(4,zI z3),(5,Sl.v 1 s2),(19,Sl.v 1 s3),(20,zI z4),(21,zI z5)]) (hp 0 []) (.k0 [] [] [3,4,5,19,20,21]) ?_
   refine .join (v:=v) (fun y:Int×Int×Sl×Sl×Int×Int=>((fr 78 [(3,(zI y.1)),(4,(zI y.2.1)),(5,(Sl.v 1 y.2.2.1)),(19,(Sl.v 1 y.2.2.2.1)),(20,(zI y.2.2.2.2.1)),(21,(zI y.2.2.2.2.2))]),(hp 0 []))) (fun y=>m6_3 pu n (l6_2 pu n w0) y.1 y.2.1 y.2.2.1 y.2.2.2.1 y.2.2.2.2.1 y.2.2.2.2.2) ?_ ?_
   ·rintro ⟨z6, z7, s4, s5, z8, z9⟩ hm
    unfold m6_3 at hm
    refine .rK ?_
    exact ⟨(z6,z7,s4,s5,z8,(wrapF .i64 (Int.add z9 (1:Int)))),hm,(.k0 [] [] [3,4,5,19,20,21])⟩
   ·refine .block ?_
    refine .then ?_
    replace hm:=oo_inv hm;obtain ⟨k1,h2,hm⟩:=hm
    obtain rfl:=toN_some h2
    replace hm:=bb_inv hm;obtain ⟨h3,hm⟩:=hm
    replace hm:=oo_inv hm;obtain ⟨v1,h4,hm⟩:=hm
    replace hm:=inv_toSl hm;obtain ⟨s6,rfl,hm⟩:=hm
    refine .reg (eD (keep (hp 0 []) (bb (an (Nat.blt k1 (Sl.n s3)) true) (some (fpV (k1 * 1) (Sl.cs s3))) none)) (keep_bb h3) (eD (keep (hp 0 []) (nthL (Sl.cs s3) (k1 * 1))) (keep_eq h4) (eE))) ?_
    refine .ghs (fr 78 [(3,zI z2),(4,zI z3),(5,Sl.v 1 s2),(7,Sl.v 1 s6),(19,Sl.v 1 s3),(20,zI z4),(21,(zI (Int.ofNat k1)))]) (hp 0 []) (.k0 [] [] [3,4,5,7,19,20,21]) ?_
    refine .then (.rK ?_)
    refine .ghs (fr 78 [(3,zI z2),(4,zI z3),(5,Sl.v 1 s2),(7,Sl.v 1 s6),(8,Sl.v 1 s6),(9,(zI (0:Int))),(19,Sl.v 1 s3),(20,zI z4),(21,(zI (Int.ofNat k1)))]) (hp 0 []) (.k0 [] [] [3,4,5,7,8,9,19,20,21]) ?_
    refine .join (v:=v) (fun y:Int×Int×Sl×Sl×Int×Sl×Int×Int=>((fr 78 [(3,(zI y.1)),(4,(zI y.2.1)),(5,(Sl.v 1 y.2.2.1)),(7,(Sl.v 1 y.2.2.2.1)),(9,(zI y.2.2.2.2.1)),(19,(Sl.v 1 y.2.2.2.2.2.1)),(20,(zI y.2.2.2.2.2.2.1)),(21,(zI y.2.2.2.2.2.2.2))]),(hp 0 []))) (fun y=>m6_4 pu n (l6_2 pu n w0) y.1 y.2.1 y.2.2.1 y.2.2.2.1 y.2.2.2.2.1 y.2.2.2.2.2.1 y.2.2.2.2.2.2.1 y.2.2.2.2.2.2.2) ?_ ?_
    ·rintro ⟨z10, z11, s7, s8, z12, s9, z13, z14⟩ hm
     unfold m6_4 at hm
     refine .then (.rK ?_)
     refine .ghs (fr 78 [(3,zI z10),(4,zI z11),(5,Sl.v 1 s7),(7,Sl.v 1 s8),(9,zI z12),(19,Sl.v 1 s9),(20,zI z13),(21,zI z14),(35,(zB (ilt z11 z12)))]) (hp 0 []) (.k0 [] [] [3,4,5,7,9,19,20,21,35]) ?_
     replace hm:=bb_cases hm;rcases hm with ⟨h5,hm⟩ | ⟨h5,hm⟩
     ·refine .ifT (ilt z11 z12) (by kernel_rfl) h5 ?_
      refine .rK ?_
      exact ⟨(z10,z12,s8,s9,z13,z14),hm,(.k0 [] [] [3,4,5,19,20,21])⟩
     ·refine .ifF (ilt z11 z12) (by kernel_rfl) h5 ?_
      refine .skip ?_
      exact ⟨(z10,z11,s7,s9,z13,z14),hm,(.k0 [] [] [3,4,5,19,20,21])⟩
    ·refine .block ?_
     refine .loopM (v:=v) (fun y:Int×Int×Sl×Sl×Sl×Int×Sl×Int×Int=>((fr 78 [(3,(zI y.1)),(4,(zI y.2.1)),(5,(Sl.v 1 y.2.2.1)),(7,(Sl.v 1 y.2.2.2.1)),(8,(Sl.v 1 y.2.2.2.2.1)),(9,(zI y.2.2.2.2.2.1)),(19,(Sl.v 1 y.2.2.2.2.2.2.1)),(20,(zI y.2.2.2.2.2.2.2.1)),(21,(zI y.2.2.2.2.2.2.2.2))]),(hp 0 []))) (fun w y=>l6_5 pu n (l6_2 pu n w0) w y.1 y.2.1 y.2.2.1 y.2.2.2.1 y.2.2.2.2.1 y.2.2.2.2.2.1 y.2.2.2.2.2.2.1 y.2.2.2.2.2.2.2.1 y.2.2.2.2.2.2.2.2) n ⟨(z2,z3,s2,s6,s6,(0:Int),s3,z4,(Int.ofNat k1)),hm,(.k0 [] [] [3,4,5,7,8,9,19,20,21])⟩ (fun _=>rfl) ?_
     rintro w1 ⟨z15,z16,s10,s11,s12,z17,s13,z18,z19⟩ hm
     replace hm:b6_5 pu n (l6_2 pu n w0) (l6_5 pu n (l6_2 pu n w0) w1) z15 z16 s10 s11 s12 z17 s13 z18 z19 = some v:=hm
     unfold b6_5 at hm
     refine .then ?_
     refine .then ?_
     replace hm:=oo_inv hm;obtain ⟨v2,h6,hm⟩:=hm
     replace hm:=inv_vBool hm;obtain ⟨b0,rfl,hm⟩:=hm
     refine .reg (eC 1 ((oo (pu 24 [Sl.v 1 s12]) none fun v=>some (v,(hp 0 [])))) (call_eq h6) (eE)) ?_
     refine .ghs (fr 78 [(3,zI z15),(4,zI z16),(5,Sl.v 1 s10),(7,Sl.v 1 s11),(8,Sl.v 1 s12),(9,zI z17),(19,Sl.v 1 s13),(20,zI z18),(21,zI z19),(28,(zB (nt b0)))]) (hp 0 []) (.k0 [] [] [3,4,5,7,8,9,19,20,21,28]) ?_
     replace hm:=bb_cases hm;rcases hm with ⟨h7,hm⟩ | ⟨h7,hm⟩
     ·refine .ifT (nt b0) (by kernel_rfl) h7 ?_
      refine .skip ?_
      refine .ghs (fr 78 [(3,zI z15),(4,zI z16),(5,Sl.v 1 s10),(7,Sl.v 1 s11),(8,Sl.v 1 s12),(9,zI z17),(19,Sl.v 1 s13),(20,zI z18),(21,zI z19)]) (hp 0 []) (.k0 [] [] [3,4,5,7,8,9,19,20,21]) ?_
      refine .block ?_
      refine .then ?_
      replace hm:=oo_inv hm;obtain ⟨v3,h8,hm⟩:=hm
      replace hm:=inv_toSl hm;obtain ⟨s14,rfl,hm⟩:=hm
      refine .reg (eC 1 ((oo (pu 15 [Sl.v 1 s12]) none fun v=>some (v,(hp 0 [])))) (call_eq h8) (eE)) ?_
      refine .ghs (fr 78 [(3,zI z15),(4,zI z16),(5,Sl.v 1 s10),(7,Sl.v 1 s11),(8,Sl.v 1 s14),(9,zI z17),(19,Sl.v 1 s13),(20,zI z18),(21,zI z19)]) (hp 0 []) (.k0 [] [] [3,4,5,7,8,9,19,20,21]) ?_
      refine .rK ?_
      exact ⟨(z15,z16,s10,s11,s14,(wrapF .i64 (Int.add z17 (1:Int))),s13,z18,z19),hm,(.k0 [] [] [3,4,5,7,8,9,19,20,21])⟩
     ·refine .ifF (nt b0) (by kernel_rfl) h7 ?_
      refine .exit ?_
      exact ⟨(z15,z16,s10,s11,z17,s13,z18,z19),hm,(.k0 [] [] [3,4,5,7,9,19,20,21])⟩
  ·refine .ifF (ilt z5 z4) (by kernel_rfl) h1 ?_
   refine .exit ?_
   exact ⟨(z2,z3,s2),hm,(.k0 [] [] [3,4,5])⟩
def m7_0 (pu:PureF) (n:Nat) (z0:Int):OV:=
 (some (.int .i64 z0))
def b7_1 (pu:PureF) (n:Nat) (ih0:Int→Int→OV) (z0 z1:Int):OV:=
 (bb (nt (ilt z0 (wrapF .i64 (Int.tdiv (wrapF .i64 (Int.mul (wrapF .i64 (Int.add z1 (1:Int))) (wrapF .i64 (Int.add z1 (2:Int))))) (2:Int))))) (ih0 z0 (wrapF .i64 (Int.add z1 (1:Int)))) (m7_0 pu n z1))
def l7_1 (pu:PureF) (n w:Nat):Int→Int→OV:=
 Nat.rec (motive:=fun _=>Int→Int→OV) (fun _ _=>none) (fun _ ih0=>b7_1 pu n ih0) w
def m7_ (pu:PureF) (n:Nat) (x0:Int):OV:=
 (l7_1 pu n n x0 (0:Int))
def m7 (pu:PureF) (n:Nat) (args:LV):OV:=
 (ll args none fun a0 args=>(ll args (oo (toI .i64 a0) none fun x0=>(m7_ pu n x0)) fun _ _=>none))
theorem w7_0 (pu:PureF) (n:Nat) (z0:Int) {v:Value} (hm:m7_0 pu n z0 = some v):Run tt (callP tabs isP pu (inl pu)) 0 c7_11 (fr 15 [(3,zI z0)]) (hp 0 []) (Fin tt 0 [.tmp 2] v):=by
 unfold m7_0 at hm
 refine .then (.rK ?_)
 refine .ghs (fr 15 [(2,zI z0)]) (hp 0 []) (.k0 [] [] [2]) ?_
 refine .ret ?_
 exact fin_ret (zI z0) (by kernel_rfl) (by kernel_rfl) hm
theorem r7 {call:CallF} (pu:PureF) (n:Nat) (hcall:call = callP tabs isP pu (inl pu)) {args:LV} {v:Value} (hm:m7 pu n args = some v) (_:∀ x ∈ args,closed2 x = true):args.length≤15∧Run tt call 0 c7_14 (Fr.made 15 args) (pureHeap tabs) (Fin tt 0 [.tmp 2] v):=by
 subst hcall
 unfold m7 at hm
 replace hm:=ll_uncons hm;obtain ⟨a0,args_0,rfl,hm⟩:=hm
 replace hm:=ll_end hm;obtain ⟨rfl,hm⟩:=hm
 replace hm:=inv_toI hm;obtain ⟨x0,rfl,hm⟩:=hm
 unfold m7_ at hm
 refine ⟨by simp,?_⟩
 refine .same (F':=(fr 15 [(0,zI x0)])) (H':=(hp 0 [])) (by kernel_rfl) (by kernel_rfl) ?_
 refine .then (.rK ?_)
 refine .ghs (fr 15 [(0,zI x0)]) (hp 0 []) (.k0 [] [] [0]) ?_
 refine .then (.rK ?_)
 refine .ghs (fr 15 [(0,zI x0),(3,(zI (0:Int)))]) (hp 0 []) (.k0 [] [] [0,3]) ?_
 refine .join (v:=v) (fun y:Int=>((fr 15 [(3,zI y)]),(hp 0 []))) (fun y=>m7_0 pu n y) ?_ ?_
 ·rintro z0 hm
  exact w7_0 pu n z0 hm
 ·refine .block ?_
  refine .loopM (v:=v) (fun y:Int×Int=>((fr 15 [(0,(zI y.1)),(3,(zI y.2))]),(hp 0 []))) (fun w y=>l7_1 pu n w y.1 y.2) n ⟨(x0,(0:Int)),hm,(.k0 [] [] [0,3])⟩ (fun _=>rfl) ?_
  rintro w0 ⟨z1,z2⟩ hm
  replace hm:b7_1 pu n (l7_1 pu n w0) z1 z2 = some v:=hm
  unfold b7_1 at hm
  refine .then ?_
  refine .then (.rK ?_)
  refine .ghs (fr 15 [(0,zI z1),(3,zI z2),(11,(zB (nt (ilt z1 (wrapF .i64 (Int.tdiv (wrapF .i64 (Int.mul (wrapF .i64 (Int.add z2 (1:Int))) (wrapF .i64 (Int.add z2 (2:Int))))) (2:Int)))))))]) (hp 0 []) (.k0 [] [] [0,3,11]) ?_
  replace hm:=bb_cases hm;rcases hm with ⟨h0,hm⟩ | ⟨h0,hm⟩
  ·refine .ifT (nt (ilt z1 (wrapF .i64 (Int.tdiv (wrapF .i64 (Int.mul (wrapF .i64 (Int.add z2 (1 : Int))) (wrapF .i64 (Int.add z2 (2 : Int))))) (2 : Int))))) (by kernel_rfl) h0 ?_
   refine .skip ?_
   refine .ghs (fr 15 [(0,zI z1),(3,zI z2)]) (hp 0 []) (.k0 [] [] [0,3]) ?_
   refine .block ?_
   refine .rK ?_
   exact ⟨(z1,(wrapF .i64 (Int.add z2 (1:Int)))),hm,(.k0 [] [] [0,3])⟩
  ·refine .ifF (nt (ilt z1 (wrapF .i64 (Int.tdiv (wrapF .i64 (Int.mul (wrapF .i64 (Int.add z2 (1 : Int))) (wrapF .i64 (Int.add z2 (2 : Int))))) (2 : Int))))) (by kernel_rfl) h0 ?_
   refine .exit ?_
   exact ⟨z2,hm,(.k0 [] [] [3])⟩
def m13_0 (pu:PureF) (n:Nat) (z0:Int):OV:=
 (some (.int .i64 z0))
def b13_1 (pu:PureF) (n:Nat) (ih0:Int→Sl→Int→Int→OV) (z0:Int) (s0:Sl) (z1 z2:Int):OV:=
 (bb (ilt z2 z1) (oo (toN z2) none fun k1=>(bb (an (Nat.blt k1 (Sl.n s0)) true) (oo (nthL (Sl.cs s0) (k1 * 1)) none fun v0=>(oo (toI .i64 v0) none fun x0=>(ih0 (wrapF .i64 (Int.add z0 x0)) s0 z1 (wrapF .i64 (Int.add (Int.ofNat k1) (1:Int)))))) none)) (m13_0 pu n z0))
def l13_1 (pu:PureF) (n w:Nat):Int→Sl→Int→Int→OV:=
 Nat.rec (motive:=fun _=>Int→Sl→Int→Int→OV) (fun _ _ _ _=>none) (fun _ ih0=>b13_1 pu n ih0) w
def m13_ (pu:PureF) (n:Nat) (s0:Sl):OV:=
 (l13_1 pu n n (0:Int) s0 (Int.ofNat (Sl.n s0)) (0:Int))
def m13 (pu:PureF) (n:Nat) (args:LV):OV:=
 (ll args none fun a0 args=>(ll args (oo (toSl 1 a0) none fun s0=>(m13_ pu n s0)) fun _ _=>none))
theorem w13_0 (pu:PureF) (n:Nat) (z0:Int) {v:Value} (hm:m13_0 pu n z0 = some v):Run tt (callP tabs isP pu (inl pu)) 0 c13_17 (fr 17 [(3,zI z0)]) (hp 0 []) (Fin tt 0 [.tmp 2] v):=by
 unfold m13_0 at hm
 refine .then (.rK ?_)
 refine .ghs (fr 17 [(2,zI z0)]) (hp 0 []) (.k0 [] [] [2]) ?_
 refine .ret ?_
 exact fin_ret (zI z0) (by kernel_rfl) (by kernel_rfl) hm
theorem r13 {call:CallF} (pu:PureF) (n:Nat) (hcall:call = callP tabs isP pu (inl pu)) {args:LV} {v:Value} (hm:m13 pu n args = some v) (_:∀ x ∈ args,closed2 x = true):args.length≤17∧Run tt call 0 c13_20 (Fr.made 17 args) (pureHeap tabs) (Fin tt 0 [.tmp 2] v):=by
 subst hcall
 unfold m13 at hm
 replace hm:=ll_uncons hm;obtain ⟨a0,args_0,rfl,hm⟩:=hm
 replace hm:=ll_end hm;obtain ⟨rfl,hm⟩:=hm
 replace hm:=inv_toSl hm;obtain ⟨s0,rfl,hm⟩:=hm
 unfold m13_ at hm
 refine ⟨by simp,?_⟩
 refine .same (F':=(fr 17 [(0,Sl.v 1 s0)])) (H':=(hp 0 [])) (by kernel_rfl) (by kernel_rfl) ?_
 refine .then (.rK ?_)
 refine .ghs (fr 17 [(0,Sl.v 1 s0)]) (hp 0 []) (.k0 [] [] [0]) ?_
 refine .then (.rK ?_)
 refine .ghs (fr 17 [(0,Sl.v 1 s0),(3,(zI (0:Int)))]) (hp 0 []) (.k0 [] [] [0,3]) ?_
 refine .join (v:=v) (fun y:Int=>((fr 17 [(3,zI y)]),(hp 0 []))) (fun y=>m13_0 pu n y) ?_ ?_
 ·rintro z0 hm
  exact w13_0 pu n z0 hm
 ·refine .then (.rK ?_)
  refine .ghs (fr 17 [(3,(zI (0:Int))),(6,Sl.v 1 s0),(7,(zI (Int.ofNat (Sl.n s0)))),(8,(zI (0:Int)))]) (hp 0 []) (.k0 [] [] [3,6,7,8]) ?_
  refine .block ?_
  refine .loopM (v:=v) (fun y:Int×Sl×Int×Int=>((fr 17 [(3,(zI y.1)),(6,(Sl.v 1 y.2.1)),(7,(zI y.2.2.1)),(8,(zI y.2.2.2))]),(hp 0 []))) (fun w y=>l13_1 pu n w y.1 y.2.1 y.2.2.1 y.2.2.2) n ⟨((0:Int),s0,(Int.ofNat (Sl.n s0)),(0:Int)),hm,(.k0 [] [] [3,6,7,8])⟩ (fun _=>rfl) ?_
  rintro w0 ⟨z1,s1,z2,z3⟩ hm
  replace hm:b13_1 pu n (l13_1 pu n w0) z1 s1 z2 z3 = some v:=hm
  unfold b13_1 at hm
  refine .then (.rK ?_)
  refine .ghs (fr 17 [(3,zI z1),(6,Sl.v 1 s1),(7,zI z2),(8,zI z3),(9,(zB (ilt z3 z2)))]) (hp 0 []) (.k0 [] [] [3,6,7,8,9]) ?_
  refine .then ?_
  replace hm:=bb_cases hm;rcases hm with ⟨h0,hm⟩ | ⟨h0,hm⟩
  ·refine .ifT (ilt z3 z2) (by kernel_rfl) h0 ?_
   refine .skip ?_
   refine .ghs (fr 17 [(3,zI z1),(6,Sl.v 1 s1),(7,zI z2),(8,zI z3)]) (hp 0 []) (.k0 [] [] [3,6,7,8]) ?_
   refine .then ?_
   refine .block ?_
   refine .then ?_
   replace hm:=oo_inv hm;obtain ⟨k1,h1,hm⟩:=hm
   obtain rfl:=toN_some h1
   replace hm:=bb_inv hm;obtain ⟨h2,hm⟩:=hm
   replace hm:=oo_inv hm;obtain ⟨v0,h3,hm⟩:=hm
   replace hm:=inv_toI hm;obtain ⟨x0,rfl,hm⟩:=hm
   refine .reg (eD (keep (hp 0 []) (bb (an (Nat.blt k1 (Sl.n s1)) true) (some (fpV (k1 * 1) (Sl.cs s1))) none)) (keep_bb h2) (eD (keep (hp 0 []) (nthL (Sl.cs s1) (k1 * 1))) (keep_eq h3) (eE))) ?_
   refine .ghs (fr 17 [(3,zI z1),(5,zI x0),(6,Sl.v 1 s1),(7,zI z2),(8,(zI (Int.ofNat k1)))]) (hp 0 []) (.k0 [] [] [3,5,6,7,8]) ?_
   refine .rK ?_
   refine .ghs (fr 17 [(3,(zI (wrapF .i64 (Int.add z1 x0)))),(6,Sl.v 1 s1),(7,zI z2),(8,(zI (Int.ofNat k1)))]) (hp 0 []) (.k0 [] [] [3,6,7,8]) ?_
   refine .rK ?_
   exact ⟨((wrapF .i64 (Int.add z1 x0)),s1,z2,(wrapF .i64 (Int.add (Int.ofNat k1) (1:Int)))),hm,(.k0 [] [] [3,6,7,8])⟩
  ·refine .ifF (ilt z3 z2) (by kernel_rfl) h0 ?_
   refine .exit ?_
   exact ⟨z1,hm,(.k0 [] [] [3])⟩
def m14_0 (pu:PureF) (n:Nat):OV:=
 (some (.bool true))
def b14_1 (pu:PureF) (n:Nat) (ih0:Sl→Sl→Int→OV) (s0 s1:Sl) (z0:Int):OV:=
 (bb (ilt z0 (Int.ofNat (Sl.n s0))) (oo (toN z0) none fun k1=>(bb (an (Nat.blt k1 (Sl.n s0)) true) (oo (nthL (Sl.cs s0) (k1 * 1)) none fun v0=>(oo (toI .i64 v0) none fun x0=>(bb (an (Nat.blt k1 (Sl.n s1)) true) (oo (nthL (Sl.cs s1) (k1 * 1)) none fun v1=>(oo (toI .i64 v1) none fun x1=>(bb (nt (ieq x0 x1)) (some (.bool false)) (ih0 s0 s1 (wrapF .i64 (Int.add (Int.ofNat k1) (1:Int))))))) none))) none)) (m14_0 pu n))
def l14_1 (pu:PureF) (n w:Nat):Sl→Sl→Int→OV:=
 Nat.rec (motive:=fun _=>Sl→Sl→Int→OV) (fun _ _ _=>none) (fun _ ih0=>b14_1 pu n ih0) w
def m14_ (pu:PureF) (n:Nat) (s0 s1:Sl):OV:=
 (bb (nt (ieq (Int.ofNat (Sl.n s0)) (Int.ofNat (Sl.n s1)))) (some (.bool false)) (l14_1 pu n n s0 s1 (0:Int)))
def m14 (pu:PureF) (n:Nat) (args:LV):OV:=
 (ll args none fun a0 args=>(ll args none fun a1 args=>(ll args (oo (toSl 1 a0) none fun s0=>(oo (toSl 1 a1) none fun s1=>(m14_ pu n s0 s1))) fun _ _=>none)))
theorem w14_0 (pu:PureF) (n:Nat) {v:Value} (hm:m14_0 pu n = some v):Run tt (callP tabs isP pu (inl pu)) 0 c14_23 (fr 26 []) (hp 0 []) (Fin tt 0 [.tmp 4] v):=by
 unfold m14_0 at hm
 refine .then (.rK ?_)
 refine .ghs (fr 26 [(4,zB true)]) (hp 0 []) (.k0 [] [] [4]) ?_
 refine .ret ?_
 exact fin_ret (zB true) (by kernel_rfl) (by kernel_rfl) hm
theorem r14 {call:CallF} (pu:PureF) (n:Nat) (hcall:call = callP tabs isP pu (inl pu)) {args:LV} {v:Value} (hm:m14 pu n args = some v) (_:∀ x ∈ args,closed2 x = true):args.length≤26∧Run tt call 0 c14_26 (Fr.made 26 args) (pureHeap tabs) (Fin tt 0 [.tmp 4] v):=by
 subst hcall
 unfold m14 at hm
 replace hm:=ll_uncons hm;obtain ⟨a0,args_0,rfl,hm⟩:=hm
 replace hm:=ll_uncons hm;obtain ⟨a1,args_1,rfl,hm⟩:=hm
 replace hm:=ll_end hm;obtain ⟨rfl,hm⟩:=hm
 replace hm:=inv_toSl hm;obtain ⟨s0,rfl,hm⟩:=hm
 replace hm:=inv_toSl hm;obtain ⟨s1,rfl,hm⟩:=hm
 unfold m14_ at hm
 refine ⟨by simp,?_⟩
 refine .same (F':=(fr 26 [(0,Sl.v 1 s0),(1,Sl.v 1 s1)])) (H':=(hp 0 [])) (by kernel_rfl) (by kernel_rfl) ?_
 refine .then (.rK ?_)
 refine .ghs (fr 26 [(0,Sl.v 1 s0),(1,Sl.v 1 s1)]) (hp 0 []) (.k0 [] [] [0,1]) ?_
 refine .then ?_
 refine .then (.rK ?_)
 refine .ghs (fr 26 [(0,Sl.v 1 s0),(1,Sl.v 1 s1),(10,(zB (nt (ieq (Int.ofNat (Sl.n s0)) (Int.ofNat (Sl.n s1))))))]) (hp 0 []) (.k0 [] [] [0,1,10]) ?_
 replace hm:=bb_cases hm;rcases hm with ⟨h0,hm⟩ | ⟨h0,hm⟩
 ·refine .ifT (nt (ieq (Int.ofNat (Sl.n s0)) (Int.ofNat (Sl.n s1)))) (by kernel_rfl) h0 ?_
  refine .then (.rK ?_)
  refine .ghs (fr 26 [(4,zB false)]) (hp 0 []) (.k0 [] [] [4]) ?_
  refine .ret ?_
  exact fin_ret (zB false) (by kernel_rfl) (by kernel_rfl) hm
 ·refine .ifF (nt (ieq (Int.ofNat (Sl.n s0)) (Int.ofNat (Sl.n s1)))) (by kernel_rfl) h0 ?_
  refine .skip ?_
  refine .ghs (fr 26 [(0,Sl.v 1 s0),(1,Sl.v 1 s1)]) (hp 0 []) (.k0 [] [] [0,1]) ?_
  refine .join (v:=v) (fun y:Unit=>((fr 26 []),(hp 0 []))) (fun y=>m14_0 pu n) ?_ ?_
  ·rintro _ hm
   exact w14_0 pu n hm
  ·refine .then (.rK ?_)
   refine .ghs (fr 26 [(0,Sl.v 1 s0),(1,Sl.v 1 s1),(5,(zI (0:Int)))]) (hp 0 []) (.k0 [] [] [0,1,5]) ?_
   refine .block ?_
   refine .loopM (v:=v) (fun y:Sl×Sl×Int=>((fr 26 [(0,(Sl.v 1 y.1)),(1,(Sl.v 1 y.2.1)),(5,(zI y.2.2))]),(hp 0 []))) (fun w y=>l14_1 pu n w y.1 y.2.1 y.2.2) n ⟨(s0,s1,(0:Int)),hm,(.k0 [] [] [0,1,5])⟩ (fun _=>rfl) ?_
   rintro w0 ⟨s2,s3,z0⟩ hm
   replace hm:b14_1 pu n (l14_1 pu n w0) s2 s3 z0 = some v:=hm
   unfold b14_1 at hm
   refine .then ?_
   refine .then (.rK ?_)
   refine .ghs (fr 26 [(0,Sl.v 1 s2),(1,Sl.v 1 s3),(5,zI z0),(14,(zB (ilt z0 (Int.ofNat (Sl.n s2)))))]) (hp 0 []) (.k0 [] [] [0,1,5,14]) ?_
   replace hm:=bb_cases hm;rcases hm with ⟨h1,hm⟩ | ⟨h1,hm⟩
   ·refine .ifT (ilt z0 (Int.ofNat (Sl.n s2))) (by kernel_rfl) h1 ?_
    refine .skip ?_
    refine .ghs (fr 26 [(0,Sl.v 1 s2),(1,Sl.v 1 s3),(5,zI z0)]) (hp 0 []) (.k0 [] [] [0,1,5]) ?_
    refine .then ?_
    refine .block ?_
    refine .then ?_
    replace hm:=oo_inv hm;obtain ⟨k1,h2,hm⟩:=hm
    obtain rfl:=toN_some h2
    replace hm:=bb_inv hm;obtain ⟨h3,hm⟩:=hm
    replace hm:=oo_inv hm;obtain ⟨v0,h4,hm⟩:=hm
    replace hm:=inv_toI hm;obtain ⟨x0,rfl,hm⟩:=hm
    replace hm:=bb_inv hm;obtain ⟨h5,hm⟩:=hm
    replace hm:=oo_inv hm;obtain ⟨v1,h6,hm⟩:=hm
    replace hm:=inv_toI hm;obtain ⟨x1,rfl,hm⟩:=hm
    refine .reg (eC 2 (keep (hp 0 []) (bb (an (Nat.blt k1 (Sl.n s2)) true) (some (fpV (k1 * 1) (Sl.cs s2))) none)) (keep_bb h3) (eD (keep (hp 0 []) (nthL (Sl.cs s2) (k1 * 1))) (keep_eq h4) (eC 2 (keep (hp 0 []) (bb (an (Nat.blt k1 (Sl.n s3)) true) (some (fpV (k1 * 1) (Sl.cs s3))) none)) (keep_bb h5) (eD (keep (hp 0 []) (nthL (Sl.cs s3) (k1 * 1))) (keep_eq h6) (eE))))) ?_
    refine .ghs (fr 26 [(0,Sl.v 1 s2),(1,Sl.v 1 s3),(5,(zI (Int.ofNat k1))),(25,(zB (nt (ieq x0 x1))))]) (hp 0 []) (.k0 [] [] [0,1,5,25]) ?_
    replace hm:=bb_cases hm;rcases hm with ⟨h7,hm⟩ | ⟨h7,hm⟩
    ·refine .ifT (nt (ieq x0 x1)) (by kernel_rfl) h7 ?_
     refine .then (.rK ?_)
     refine .ghs (fr 26 [(4,zB false)]) (hp 0 []) (.k0 [] [] [4]) ?_
     refine .ret ?_
     exact fin_ret (zB false) (by kernel_rfl) (by kernel_rfl) hm
    ·refine .ifF (nt (ieq x0 x1)) (by kernel_rfl) h7 ?_
     refine .skip ?_
     refine .ghs (fr 26 [(0,Sl.v 1 s2),(1,Sl.v 1 s3),(5,(zI (Int.ofNat k1)))]) (hp 0 []) (.k0 [] [] [0,1,5]) ?_
     refine .rK ?_
     exact ⟨(s2,s3,(wrapF .i64 (Int.add (Int.ofNat k1) (1:Int)))),hm,(.k0 [] [] [0,1,5])⟩
   ·refine .ifF (ilt z0 (Int.ofNat (Sl.n s2))) (by kernel_rfl) h1 ?_
    refine .exit ?_
    exact ⟨(),hm,(.k0 [] [] [])⟩
def m15_0 (pu:PureF) (n n0 c0:Nat) (q1:LV):OV:=
 (oo (mapO (toI .i64) q1) none fun z0=>(bb (wholeC 0 1 (len q1) n0) (bb (allL closed1 (mapL I64 (srtZ z0))) (bb (orr (Nat.ble 2 c0) (nilL (mapL I64 (srtZ z0)))) (bb (allL closed1 (mapL I64 (srtZ z0))) (oo (pu 10440 [(.slice (some ⟨0,0,some 1⟩) n0 c0),(.agg ⟨(mapL I64 (srtZ z0))⟩)]) none fun v0=>(oo (vTup v0) none fun l0=>(ll l0 none fun v1 l0=>(ll l0 none fun v2 l0=>(ll l0 (bb (isNoV v1) (oo (vAgg v2) none fun q2=>(bb (allL closed1 q2) (bb (allL closed1 q2) (bb (an (Nat.ble (0 + n0 * 1) (len q2)) (allL closed1 (takeL (n0 * 1) (dropL 0 q2)))) (some (Sl.v 1 (Sl.mk n0 0 (takeL (n0 * 1) (dropL 0 q2))))) none) none) none)) none) fun _ _=>none))))) none) none) none) none))
def m15_2 (pu:PureF) (n:Nat) (ih0:Nat→Nat→Sl→Int→Int→LV→OV) (n0 c0:Nat) (s0:Sl) (z0 z1:Int) (q1:LV):OV:=
 (bb (allL closed1 q1) (ih0 n0 c0 s0 z0 (wrapF .i64 (Int.add z1 (1:Int))) q1) none)
def b15_1 (pu:PureF) (n:Nat) (ih0:Nat→Nat→Sl→Int→Int→LV→OV) (n0 c0:Nat) (s0:Sl) (z0 z1:Int) (q1:LV):OV:=
 (bb (allL closed1 q1) (bb (ilt z1 z0) (oo (toN z1) none fun k1=>(bb (an (Nat.blt k1 (Sl.n s0)) true) (oo (nthL (Sl.cs s0) (k1 * 1)) none fun v0=>(oo (toI .i64 v0) none fun x0=>(bb (ilt (1:Int) x0) (bb (growC 1 8 n0 c0 1 q1) (bb (allL closed1 (appL (dropL 0 q1) [(.int .i64 (wrapF .i64 (Int.sub x0 (1:Int))))])) (m15_2 pu n ih0 (n0 + 1) (2 * (n0 + 1) + bb false 1 0) s0 z0 (Int.ofNat k1) (appL (dropL 0 q1) [(.int .i64 (wrapF .i64 (Int.sub x0 (1:Int))))])) none) none) (m15_2 pu n ih0 n0 c0 s0 z0 (Int.ofNat k1) q1)))) none)) (m15_0 pu n n0 c0 q1)) none)
def l15_1 (pu:PureF) (n w:Nat):Nat→Nat→Sl→Int→Int→LV→OV:=
 Nat.rec (motive:=fun _=>Nat→Nat→Sl→Int→Int→LV→OV) (fun _ _ _ _ _ _=>none) (fun _ ih0=>b15_1 pu n ih0) w
def m15_ (pu:PureF) (n:Nat) (s0:Sl):OV:=
 (l15_1 pu n n 1 2 s0 (Int.ofNat (Sl.n s0)) (0:Int) ([(.int .i64 (Int.ofNat (Sl.n s0)))]:LV))
def m15 (pu:PureF) (n:Nat) (args:LV):OV:=
 (ll args none fun a0 args=>(ll args (oo (toSl 1 a0) none fun s0=>(m15_ pu n s0)) fun _ _=>none))
theorem w15_0 (pu:PureF) (n n0 c0:Nat) (q1:LV) {v:Value} (hm:m15_0 pu n n0 c0 q1 = some v):Run tt (callP tabs isP pu (inl pu)) 0 c15_24 (fr 29 [(3,sc 0 0 1 n0 c0)]) (hp 1 [oC q1]) (Fin tt 0 [.tmp 2] v):=by
 unfold m15_0 at hm
 refine .then ?_
 replace hm:=oo_inv hm;obtain ⟨z0,h0,hm⟩:=hm
 replace hm:=bb_inv hm;obtain ⟨h1,hm⟩:=hm
 refine .reg (eC 1 (sortF [sc 0 0 1 n0 c0] (hp 1 [oC q1])) (sortF_eq (x:=(sc 0 0 1 n0 c0)) (H:=(hp 1 [oC q1])) (id:=0) (ln:=n0) (c2:=c0) (xs:=q1) (anc:=[]) (by kernel_rfl) (by kernel_rfl) h0 h1) (eE)) ?_
 replace hm:=bb_inv hm;obtain ⟨h2,hm⟩:=hm
 refine .ghs (fr 29 [(3,sc 0 0 1 n0 c0)]) (hp 1 [(oC (mapL I64 (srtZ z0)))]) (.k [0] [] [.tmp 3 false] [3] ⟨trF h2,trivial⟩) ?_
 refine .then ?_
 replace hm:=bb_inv hm;obtain ⟨h3,hm⟩:=hm
 replace hm:=bb_inv hm;obtain ⟨h4,hm⟩:=hm
 replace hm:=oo_inv hm;obtain ⟨v0,h5,hm⟩:=hm
 replace hm:=inv_vTup hm;obtain ⟨l0,rfl,hm⟩:=hm
 replace hm:=ll_uncons hm;obtain ⟨v1,l672_0,rfl,hm⟩:=hm
 replace hm:=ll_uncons hm;obtain ⟨v2,l672_1,rfl,hm⟩:=hm
 replace hm:=ll_end hm;obtain ⟨rfl,hm⟩:=hm
 replace hm:=bb_inv hm;obtain ⟨h6,hm⟩:=hm
 obtain rfl:=isNoV_ok h6
 replace hm:=inv_vAgg hm;obtain ⟨q2,rfl,hm⟩:=hm
 replace hm:=bb_inv hm;obtain ⟨h7,hm⟩:=hm
 refine .reg (eC 1 (objG tabs [[none]] 1 [.tmp 0 false] [false] (pu 10440) [sc 0 0 1 n0 c0] (hp 1 [(oC (mapL I64 (srtZ z0)))])) (objG_eq (as:=[sc 0 0 1 n0 c0]) (H1:=(hp 1 [(oC (mapL I64 (srtZ z0)))])) (gvAL_c (gvA_1 gv_n) gvAL_n) (objF_eq (H2:=(hp 1 [oC q2])) (v:=(.tuple ⟨[]⟩)) (v':=(.tuple ⟨[]⟩)) [some 0] [(false,some 0)] [(oC (mapL I64 (srtZ z0)))] [sc 0 0 1 n0 c0] [(.agg ⟨q2⟩)] [oC q2] [some 0] [(false,oC q2)] [oC q2] (trE (by kernel_rfl) (rootL h3 rfl)) (mapO_c (nO_list (anc:=[]) h4) mapO_n) (Eq.trans (by kernel_rfl) h5) (mapO_c rfl mapO_n) (mapO_c (bO_list h7) mapO_n))) (eE)) ?_
 replace hm:=bb_inv hm;obtain ⟨h8,hm⟩:=hm
 refine .ghs (fr 29 [(3,sc 0 0 1 n0 c0)]) (hp 1 [oC q2]) (.k [0] [] [.tmp 3 false] [3] ⟨trF h8,trivial⟩) ?_
 refine .then (.rK ?_)
 refine .ghs (fr 29 [(2,sc 0 0 1 n0 c0)]) (hp 1 [oC q2]) (.k [0] [] [.tmp 2 false] [2] ⟨trF h8,trivial⟩) ?_
 replace hm:=bb_inv hm;obtain ⟨h9,hm⟩:=hm
 refine .ghs (Fr.puts (fr 29 [(2,sc 0 0 1 n0 c0)]) [(2,(Sl.v 1 (Sl.mk n0 0 (takeL (n0 * 1) (dropL 0 q2)))))]) (hp 1 [.dead]) (.freezeC 0 2 1 (an (Nat.ble (0 + n0 * 1) (len q2)) (allL closed1 (takeL (n0 * 1) (dropL 0 q2)))) (F1:=(Fr.puts (fr 29 [(2,sc 0 0 1 n0 c0)]) [(2,(Sl.v 1 (Sl.mk n0 0 (takeL (n0 * 1) (dropL 0 q2)))))])) (H1:=(hp 1 [.dead])) (by kernel_rfl) (by kernel_rfl) h9 (GhS.id _ _)) ?_
 refine .ret ?_
 exact fin_ret (Sl.v 1 (Sl.mk n0 0 (takeL (n0 * 1) (dropL 0 q2)))) (by kernel_rfl) (by kernel_rfl) hm
theorem r15 {call:CallF} (pu:PureF) (n:Nat) (hcall:call = callP tabs isP pu (inl pu)) {args:LV} {v:Value} (hm:m15 pu n args = some v) (_:∀ x ∈ args,closed2 x = true):args.length≤29∧Run tt call 0 c15_27 (Fr.made 29 args) (pureHeap tabs) (Fin tt 0 [.tmp 2] v):=by
 subst hcall
 unfold m15 at hm
 replace hm:=ll_uncons hm;obtain ⟨a0,args_0,rfl,hm⟩:=hm
 replace hm:=ll_end hm;obtain ⟨rfl,hm⟩:=hm
 replace hm:=inv_toSl hm;obtain ⟨s0,rfl,hm⟩:=hm
 unfold m15_ at hm
 refine ⟨by simp,?_⟩
 refine .same (F':=(fr 29 [(0,Sl.v 1 s0)])) (H':=(hp 0 [])) (by kernel_rfl) (by kernel_rfl) ?_
 refine .then (.rK ?_)
 refine .ghs (fr 29 [(0,Sl.v 1 s0)]) (hp 0 []) (.k0 [] [] [0]) ?_
 refine .then ?_
 refine .reg (eC 3 (identF [sc 0 0 1 1 3] (hp 1 [(oC [(zI (Int.ofNat (Sl.n s0)))])])) rfl (eE)) ?_
 refine .ghs (fr 29 [(0,Sl.v 1 s0),(3,sc 0 0 1 1 3)]) (hp 1 [(oC [(zI (Int.ofNat (Sl.n s0)))])]) (.k0 [] [.tmp 3 false] [0,3]) ?_
 refine .join (v:=v) (fun y:Nat×Nat×LV=>((fr 29 [(3,(sc 0 0 1 y.1 y.2.1))]),(hp 1 [(oC y.2.2)]))) (fun y=>m15_0 pu n y.1 y.2.1 y.2.2) ?_ ?_
 ·rintro ⟨n0, c0, q1⟩ hm
  exact w15_0 pu n n0 c0 q1 hm
 ·refine .then (.rK ?_)
  refine .ghs (fr 29 [(3,sc 0 0 1 1 3),(10,Sl.v 1 s0),(11,(zI (Int.ofNat (Sl.n s0)))),(12,(zI (0:Int)))]) (hp 1 [(oC [(zI (Int.ofNat (Sl.n s0)))])]) (.k0 [] [.tmp 3 false] [3,10,11,12]) ?_
  refine .block ?_
  refine .loopM (v:=v) (fun y:Nat×Nat×Sl×Int×Int×LV=>((fr 29 [(3,(sc 0 0 1 y.1 y.2.1)),(10,(Sl.v 1 y.2.2.1)),(11,(zI y.2.2.2.1)),(12,(zI y.2.2.2.2.1))]),(hp 1 [(oC y.2.2.2.2.2)]))) (fun w y=>l15_1 pu n w y.1 y.2.1 y.2.2.1 y.2.2.2.1 y.2.2.2.2.1 y.2.2.2.2.2) n ⟨(1,2,s0,(Int.ofNat (Sl.n s0)),(0:Int),([(zI (Int.ofNat (Sl.n s0)))]:LV)),hm,(.weak 3 (sc 0 0 1 1 2) (v:=(sc 0 0 1 1 3)) (by kernel_rfl) (Weak.cap 0 0 1 1 1) (.k0 [] [.tmp 3 false] [3,10,11,12]))⟩ (fun _=>rfl) ?_
  rintro w0 ⟨n1,c1,s1,z0,z1,q2⟩ hm
  replace hm:b15_1 pu n (l15_1 pu n w0) n1 c1 s1 z0 z1 q2 = some v:=hm
  unfold b15_1 at hm
  refine .then (.rK ?_)
  replace hm:=bb_inv hm;obtain ⟨h0,hm⟩:=hm
  refine .ghs (fr 29 [(3,sc 0 0 1 n1 c1),(10,Sl.v 1 s1),(11,zI z0),(12,zI z1),(13,(zB (ilt z1 z0)))]) (hp 1 [oC q2]) (.k [0] [] [.tmp 3 false] [3,10,11,12,13] ⟨trF h0,trivial⟩) ?_
  refine .then ?_
  replace hm:=bb_cases hm;rcases hm with ⟨h1,hm⟩ | ⟨h1,hm⟩
  ·refine .ifT (ilt z1 z0) (by kernel_rfl) h1 ?_
   refine .skip ?_
   refine .ghs (fr 29 [(3,sc 0 0 1 n1 c1),(10,Sl.v 1 s1),(11,zI z0),(12,zI z1)]) (hp 1 [oC q2]) (.k [0] [] [.tmp 3 false] [3,10,11,12] ⟨trF h0,trivial⟩) ?_
   refine .join (v:=v) (fun y:Nat×Nat×Sl×Int×Int×LV=>((fr 29 [(3,(sc 0 0 1 y.1 y.2.1)),(10,(Sl.v 1 y.2.2.1)),(11,(zI y.2.2.2.1)),(12,(zI y.2.2.2.2.1))]),(hp 1 [(oC y.2.2.2.2.2)]))) (fun y=>m15_2 pu n (l15_1 pu n w0) y.1 y.2.1 y.2.2.1 y.2.2.2.1 y.2.2.2.2.1 y.2.2.2.2.2) ?_ ?_
   ·rintro ⟨n2, c2, s2, z2, z3, q3⟩ hm
    unfold m15_2 at hm
    refine .rK ?_
    replace hm:=bb_inv hm;obtain ⟨h2,hm⟩:=hm
    exact ⟨(n2,c2,s2,z2,(wrapF .i64 (Int.add z3 (1:Int))),q3),hm,(.k [0] [] [.tmp 3 false] [3,10,11,12] ⟨trF h2,trivial⟩)⟩
   ·refine .block ?_
    refine .then ?_
    replace hm:=oo_inv hm;obtain ⟨k1,h3,hm⟩:=hm
    obtain rfl:=toN_some h3
    replace hm:=bb_inv hm;obtain ⟨h4,hm⟩:=hm
    replace hm:=oo_inv hm;obtain ⟨v0,h5,hm⟩:=hm
    replace hm:=inv_toI hm;obtain ⟨x0,rfl,hm⟩:=hm
    refine .reg (eD (keep (hp 1 [oC q2]) (bb (an (Nat.blt k1 (Sl.n s1)) true) (some (fpV (k1 * 1) (Sl.cs s1))) none)) (keep_bb h4) (eD (keep (hp 1 [oC q2]) (nthL (Sl.cs s1) (k1 * 1))) (keep_eq h5) (eE))) ?_
    refine .ghs (fr 29 [(3,sc 0 0 1 n1 c1),(5,zI x0),(10,Sl.v 1 s1),(11,zI z0),(12,(zI (Int.ofNat k1)))]) (hp 1 [oC q2]) (.k [0] [] [.tmp 3 false] [3,5,10,11,12] ⟨trF h0,trivial⟩) ?_
    refine .then (.rK ?_)
    refine .ghs (fr 29 [(3,sc 0 0 1 n1 c1),(5,zI x0),(10,Sl.v 1 s1),(11,zI z0),(12,(zI (Int.ofNat k1))),(17,(zB (ilt (1:Int) x0)))]) (hp 1 [oC q2]) (.k [0] [] [.tmp 3 false] [3,5,10,11,12,17] ⟨trF h0,trivial⟩) ?_
    replace hm:=bb_cases hm;rcases hm with ⟨h6,hm⟩ | ⟨h6,hm⟩
    ·refine .ifT (ilt (1 : Int) x0) (by kernel_rfl) h6 ?_
     replace hm:=bb_inv hm;obtain ⟨h7,hm⟩:=hm
     refine .reg (eC 4 (growD 1 8 n1 c1 1 0 q2 [(zI (wrapF .i64 (Int.sub x0 (1:Int))))] [] (hp 2 [oC q2,(oC [(zI (wrapF .i64 (Int.sub x0 (1:Int))))])])) (growD_eq h7) (eE)) ?_
     replace hm:=bb_inv hm;obtain ⟨h8,hm⟩:=hm
     exact ⟨((n1 + 1),(d2 (n1 + 1)),s1,z0,(Int.ofNat k1),(appL (dropL 0 q2) [(zI (wrapF .i64 (Int.sub x0 (1:Int))))])),hm,(.k [2] [] [.tmp 3 false] [3,10,11,12] ⟨trF h8,trivial⟩)⟩
    ·refine .ifF (ilt (1 : Int) x0) (by kernel_rfl) h6 ?_
     refine .skip ?_
     exact ⟨(n1,c1,s1,z0,(Int.ofNat k1),q2),hm,(.k [0] [] [.tmp 3 false] [3,10,11,12] ⟨trF h0,trivial⟩)⟩
  ·refine .ifF (ilt z1 z0) (by kernel_rfl) h1 ?_
   refine .exit ?_
   exact ⟨(n1,c1,q2),hm,(.k [0] [] [.tmp 3 false] [3] ⟨trF h0,trivial⟩)⟩
def m24_0 (pu:PureF) (n:Nat):OV:=
 (some (.bool true))
def m24_3 (pu:PureF) (n:Nat) (ih0:Sl→Int→Int→OV) (s0:Sl) (z0 z1:Int) (b0:Bool):OV:=
 (bb b0 (some (.bool false)) (ih0 s0 z0 (wrapF .i64 (Int.add z1 (1:Int)))))
def m24_2 (pu:PureF) (n:Nat) (ih0:Sl→Int→Int→OV) (s0:Sl) (z0 z1 z2:Int):OV:=
 (bb (nt (ieq z2 (wrapF .i64 (Int.sub z0 z1)))) (m24_3 pu n ih0 s0 z0 z1 (nt (ieq z2 (wrapF .i64 (Int.add (wrapF .i64 (Int.sub z0 z1)) (1:Int)))))) (m24_3 pu n ih0 s0 z0 z1 false))
def b24_1 (pu:PureF) (n:Nat) (ih0:Sl→Int→Int→OV) (s0:Sl) (z0 z1:Int):OV:=
 (bb (nt (ilt z0 z1)) (bb (ilt z1 (Int.ofNat (Sl.n s0))) (oo (toN z1) none fun k1=>(bb (an (Nat.blt k1 (Sl.n s0)) true) (oo (nthL (Sl.cs s0) (k1 * 1)) none fun v0=>(oo (toI .i64 v0) none fun x0=>(m24_2 pu n ih0 s0 z0 (Int.ofNat k1) x0))) none)) (m24_2 pu n ih0 s0 z0 z1 (0:Int))) (m24_0 pu n))
def l24_1 (pu:PureF) (n w:Nat):Sl→Int→Int→OV:=
 Nat.rec (motive:=fun _=>Sl→Int→Int→OV) (fun _ _ _=>none) (fun _ ih0=>b24_1 pu n ih0) w
def m24_ (pu:PureF) (n:Nat) (s0:Sl):OV:=
 (oo (pu 13 [Sl.v 1 s0]) none fun v0=>(oo (toI .i64 v0) none fun x0=>(oo (pu 7 [.int .i64 x0]) none fun v1=>(oo (toI .i64 v1) none fun x1=>(bb (ilt (wrapF .i64 (Int.add x1 (1:Int))) (Int.ofNat (Sl.n s0))) (some (.bool false)) (l24_1 pu n n s0 x1 (0:Int)))))))
def m24 (pu:PureF) (n:Nat) (args:LV):OV:=
 (ll args none fun a0 args=>(ll args (oo (toSl 1 a0) none fun s0=>(m24_ pu n s0)) fun _ _=>none))
theorem w24_0 (pu:PureF) (n:Nat) {v:Value} (hm:m24_0 pu n = some v):Run tt (callP tabs isP pu (inl pu)) 0 c24_31 (fr 40 []) (hp 0 []) (Fin tt 0 [.tmp 2] v):=by
 unfold m24_0 at hm
 refine .then (.rK ?_)
 refine .ghs (fr 40 [(2,zB true)]) (hp 0 []) (.k0 [] [] [2]) ?_
 refine .ret ?_
 exact fin_ret (zB true) (by kernel_rfl) (by kernel_rfl) hm
theorem r24 {call:CallF} (pu:PureF) (n:Nat) (hcall:call = callP tabs isP pu (inl pu)) {args:LV} {v:Value} (hm:m24 pu n args = some v) (_:∀ x ∈ args,closed2 x = true):args.length≤40∧Run tt call 0 c24_35 (Fr.made 40 args) (pureHeap tabs) (Fin tt 0 [.tmp 2] v):=by
 subst hcall
 unfold m24 at hm
 replace hm:=ll_uncons hm;obtain ⟨a0,args_0,rfl,hm⟩:=hm
 replace hm:=ll_end hm;obtain ⟨rfl,hm⟩:=hm
 replace hm:=inv_toSl hm;obtain ⟨s0,rfl,hm⟩:=hm
 unfold m24_ at hm
 refine ⟨by simp,?_⟩
 refine .same (F':=(fr 40 [(0,Sl.v 1 s0)])) (H':=(hp 0 [])) (by kernel_rfl) (by kernel_rfl) ?_
 refine .then (.rK ?_)
 refine .ghs (fr 40 [(0,Sl.v 1 s0)]) (hp 0 []) (.k0 [] [] [0]) ?_
 refine .then ?_
 replace hm:=oo_inv hm;obtain ⟨v0,h0,hm⟩:=hm
 replace hm:=inv_toI hm;obtain ⟨x0,rfl,hm⟩:=hm
 replace hm:=oo_inv hm;obtain ⟨v1,h1,hm⟩:=hm
 replace hm:=inv_toI hm;obtain ⟨x1,rfl,hm⟩:=hm
 refine .reg (eC 1 ((oo (pu 13 [Sl.v 1 s0]) none fun v=>some (v,(hp 0 [])))) (call_eq h0) (eD ((oo (pu 7 [zI x0]) none fun v=>some (v,(hp 0 [])))) (call_eq h1) (eE))) ?_
 refine .ghs (fr 40 [(0,Sl.v 1 s0),(3,zI x1)]) (hp 0 []) (.k0 [] [] [0,3]) ?_
 refine .then ?_
 refine .then (.rK ?_)
 refine .ghs (fr 40 [(0,Sl.v 1 s0),(3,zI x1),(13,(zB (ilt (wrapF .i64 (Int.add x1 (1:Int))) (Int.ofNat (Sl.n s0)))))]) (hp 0 []) (.k0 [] [] [0,3,13]) ?_
 replace hm:=bb_cases hm;rcases hm with ⟨h2,hm⟩ | ⟨h2,hm⟩
 ·refine .ifT (ilt (wrapF .i64 (Int.add x1 (1 : Int))) (Int.ofNat (Sl.n s0))) (by kernel_rfl) h2 ?_
  refine .then (.rK ?_)
  refine .ghs (fr 40 [(2,zB false)]) (hp 0 []) (.k0 [] [] [2]) ?_
  refine .ret ?_
  exact fin_ret (zB false) (by kernel_rfl) (by kernel_rfl) hm
 ·refine .ifF (ilt (wrapF .i64 (Int.add x1 (1 : Int))) (Int.ofNat (Sl.n s0))) (by kernel_rfl) h2 ?_
  refine .skip ?_
  refine .ghs (fr 40 [(0,Sl.v 1 s0),(3,zI x1)]) (hp 0 []) (.k0 [] [] [0,3]) ?_
  refine .join (v:=v) (fun y:Unit=>((fr 40 []),(hp 0 []))) (fun y=>m24_0 pu n) ?_ ?_
  ·rintro _ hm
   exact w24_0 pu n hm
  ·refine .then (.rK ?_)
   refine .ghs (fr 40 [(0,Sl.v 1 s0),(3,zI x1),(4,(zI (0:Int)))]) (hp 0 []) (.k0 [] [] [0,3,4]) ?_
   refine .block ?_
   refine .loopM (v:=v) (fun y:Sl×Int×Int=>((fr 40 [(0,(Sl.v 1 y.1)),(3,(zI y.2.1)),(4,(zI y.2.2))]),(hp 0 []))) (fun w y=>l24_1 pu n w y.1 y.2.1 y.2.2) n ⟨(s0,x1,(0:Int)),hm,(.k0 [] [] [0,3,4])⟩ (fun _=>rfl) ?_
   rintro w0 ⟨s1,z0,z1⟩ hm
   replace hm:b24_1 pu n (l24_1 pu n w0) s1 z0 z1 = some v:=hm
   unfold b24_1 at hm
   refine .then ?_
   refine .then (.rK ?_)
   refine .ghs (fr 40 [(0,Sl.v 1 s1),(3,zI z0),(4,zI z1),(16,(zB (nt (ilt z0 z1))))]) (hp 0 []) (.k0 [] [] [0,3,4,16]) ?_
   replace hm:=bb_cases hm;rcases hm with ⟨h3,hm⟩ | ⟨h3,hm⟩
   ·refine .ifT (nt (ilt z0 z1)) (by kernel_rfl) h3 ?_
    refine .skip ?_
    refine .ghs (fr 40 [(0,Sl.v 1 s1),(3,zI z0),(4,zI z1)]) (hp 0 []) (.k0 [] [] [0,3,4]) ?_
    refine .then ?_
    refine .block ?_
    refine .then (.rK ?_)
    refine .ghs (fr 40 [(0,Sl.v 1 s1),(3,zI z0),(4,zI z1),(5,(zI (0:Int)))]) (hp 0 []) (.k0 [] [] [0,3,4,5]) ?_
    refine .join (v:=v) (fun y:Sl×Int×Int×Int=>((fr 40 [(0,(Sl.v 1 y.1)),(3,(zI y.2.1)),(4,(zI y.2.2.1)),(5,(zI y.2.2.2))]),(hp 0 []))) (fun y=>m24_2 pu n (l24_1 pu n w0) y.1 y.2.1 y.2.2.1 y.2.2.2) ?_ ?_
    ·rintro ⟨s2, z2, z3, z4⟩ hm
     unfold m24_2 at hm
     refine .join (v:=v) (fun y:Sl×Int×Int×Bool=>((fr 40 [(0,(Sl.v 1 y.1)),(3,(zI y.2.1)),(4,(zI y.2.2.1)),(39,(zB y.2.2.2))]),(hp 0 []))) (fun y=>m24_3 pu n (l24_1 pu n w0) y.1 y.2.1 y.2.2.1 y.2.2.2) ?_ ?_
     ·rintro ⟨s3, z5, z6, b0⟩ hm
      unfold m24_3 at hm
      replace hm:=bb_cases hm;rcases hm with ⟨h4,hm⟩ | ⟨h4,hm⟩
      ·refine .ifT b0 (by kernel_rfl) h4 ?_
       refine .then (.rK ?_)
       refine .ghs (fr 40 [(2,zB false)]) (hp 0 []) (.k0 [] [] [2]) ?_
       refine .ret ?_
       exact fin_ret (zB false) (by kernel_rfl) (by kernel_rfl) hm
      ·refine .ifF b0 (by kernel_rfl) h4 ?_
       refine .skip ?_
       refine .ghs (fr 40 [(0,Sl.v 1 s3),(3,zI z5),(4,zI z6)]) (hp 0 []) (.k0 [] [] [0,3,4]) ?_
       refine .rK ?_
       exact ⟨(s3,z5,(wrapF .i64 (Int.add z6 (1:Int)))),hm,(.k0 [] [] [0,3,4])⟩
     ·replace hm := bb_cases hm; rcases hm with ⟨h5, hm⟩ | ⟨h5, hm⟩
      ·refine .reg (eC 4 (some ((zB (nt (ieq z4 (wrapF .i64 (Int.sub z2 z3))))), (hp 0 []))) (show _ = some ((zB true), _) from (by rw [h5])) (eE)) ?_
       exact ⟨(s2,z2,z3,(nt (ieq z4 (wrapF .i64 (Int.add (wrapF .i64 (Int.sub z2 z3)) (1:Int)))))),hm,(.k0 [] [] [0,3,4,39])⟩
      ·refine .reg (eC 4 (some ((zB (nt (ieq z4 (wrapF .i64 (Int.sub z2 z3))))), (hp 0 []))) (show _ = some ((zB false), _) from (by rw [h5])) (eE)) ?_
       exact ⟨(s2,z2,z3,false),hm,(.k0 [] [] [0,3,4,39])⟩
    ·refine .then (.rK ?_)
     refine .ghs (fr 40 [(0,Sl.v 1 s1),(3,zI z0),(4,zI z1),(5,(zI (0:Int))),(22,(zB (ilt z1 (Int.ofNat (Sl.n s1)))))]) (hp 0 []) (.k0 [] [] [0,3,4,5,22]) ?_
     replace hm:=bb_cases hm;rcases hm with ⟨h6,hm⟩ | ⟨h6,hm⟩
     ·refine .ifT (ilt z1 (Int.ofNat (Sl.n s1))) (by kernel_rfl) h6 ?_
      replace hm:=oo_inv hm;obtain ⟨k1,h7,hm⟩:=hm
      obtain rfl:=toN_some h7
      replace hm:=bb_inv hm;obtain ⟨h8,hm⟩:=hm
      replace hm:=oo_inv hm;obtain ⟨v2,h9,hm⟩:=hm
      replace hm:=inv_toI hm;obtain ⟨x2,rfl,hm⟩:=hm
      refine .reg (eC 2 (keep (hp 0 []) (bb (an (Nat.blt k1 (Sl.n s1)) true) (some (fpV (k1 * 1) (Sl.cs s1))) none)) (keep_bb h8) (eD (keep (hp 0 []) (nthL (Sl.cs s1) (k1 * 1))) (keep_eq h9) (eE))) ?_
      exact ⟨(s1,z0,(Int.ofNat k1),x2),hm,(.k0 [] [] [0,3,4,5])⟩
     ·refine .ifF (ilt z1 (Int.ofNat (Sl.n s1))) (by kernel_rfl) h6 ?_
      refine .skip ?_
      exact ⟨(s1,z0,z1,(0:Int)),hm,(.k0 [] [] [0,3,4,5])⟩
   ·refine .ifF (nt (ilt z0 z1)) (by kernel_rfl) h3 ?_
    refine .exit ?_
    exact ⟨(),hm,(.k0 [] [] [])⟩
def m28_0 (pu:PureF) (n:Nat) (q1:LV) (q2:LV):OV:=
 (bb (Nat.ble (0 + 22) (len q2)) (bb (Nat.beq (len (takeL 22 (dropL 0 q2))) 22) (bb (an (Nat.ble (0 + len (takeL 22 (dropL 0 q2))) (len q1)) (allL scalarB (takeL 22 (dropL 0 q2)))) (bb (allL closed1 (setL (takeL 22 (dropL 0 q2)) 0 q1)) (bb (Nat.ble (0 + 22) (len (setL (takeL 22 (dropL 0 q2)) 0 q1))) (bb (closedV (.agg ⟨(takeL 22 (dropL 0 (setL (takeL 22 (dropL 0 q2)) 0 q1)))⟩)) (some (.agg ⟨(takeL 22 (dropL 0 (setL (takeL 22 (dropL 0 q2)) 0 q1)))⟩)) none) none) none) none) none) none)
def b28_1 (pu:PureF) (n:Nat) (ih0:Sl→Int→Int→LV→LV→OV) (s0:Sl) (z0 z1:Int) (q1:LV) (q2:LV):OV:=
 (bb (allL closed1 q1) (bb (allL closed1 q2) (bb (ilt z1 z0) (oo (toN z1) none fun k1=>(bb (an (Nat.blt k1 (Sl.n s0)) true) (oo (nthL (Sl.cs s0) (k1 * 1)) none fun v0=>(oo (toI .i64 v0) none fun x0=>(oo (toN x0) none fun k2=>(bb (Nat.blt k2 22) (oo (nthL q2 (0 + k2 * 1)) none fun v1=>(oo (toI .i64 v1) none fun x1=>(bb (Nat.blt k2 22) (bb (an (Nat.ble ((0 + k2 * 1) + 1) (len q2)) true) (bb (allL closed1 (setL ([(.int .i64 (wrapF .i64 (Int.add x1 (1:Int))))]:LV) (0 + k2 * 1) q2)) (ih0 s0 z0 (wrapF .i64 (Int.add (Int.ofNat k1) (1:Int))) q1 (setL ([(.int .i64 (wrapF .i64 (Int.add x1 (1:Int))))]:LV) (0 + k2 * 1) q2)) none) none) none))) none)))) none)) (m28_0 pu n q1 q2)) none) none)
def l28_1 (pu:PureF) (n w:Nat):Sl→Int→Int→LV→LV→OV:=
 Nat.rec (motive:=fun _=>Sl→Int→Int→LV→LV→OV) (fun _ _ _ _ _=>none) (fun _ ih0=>b28_1 pu n ih0) w
def m28_ (pu:PureF) (n:Nat) (s0:Sl):OV:=
 (bb (allL closed1 zA54) (l28_1 pu n n s0 (Int.ofNat (Sl.n s0)) (0:Int) zA54 zA54) none)
def m28 (pu:PureF) (n:Nat) (args:LV):OV:=
 (ll args none fun a0 args=>(ll args (oo (toSl 1 a0) none fun s0=>(m28_ pu n s0)) fun _ _=>none))
theorem w28_0 (pu:PureF) (n:Nat) (q1:LV) (q2:LV) {v:Value} (hm:m28_0 pu n q1 q2 = some v):Run tt (callP tabs isP pu (inl pu)) 0 c28_17 (fr 19 [(2,(pt 0 0)),(3,pt 1 0)]) (hp 2 [oC q1,oC q2]) (Fin tt 0 [.cell 2 54] v):=by
 unfold m28_0 at hm
 refine .then ?_
 replace hm:=bb_inv hm;obtain ⟨h0,hm⟩:=hm
 replace hm:=bb_inv hm;obtain ⟨h1,hm⟩:=hm
 replace hm:=bb_inv hm;obtain ⟨h2,hm⟩:=hm
 refine .reg (eD (keep (hp 2 [oC q1,oC q2]) (bb (Nat.ble (0 + 22) (len q2)) (some (.agg ⟨(takeL 22 (dropL 0 q2))⟩)) none)) (keep_bb h0) (eD (done (bb (Nat.beq (len (takeL 22 (dropL 0 q2))) 22) (bb (an (Nat.ble (0 + len (takeL 22 (dropL 0 q2))) (len q1)) (allL scalarB (takeL 22 (dropL 0 q2)))) (some (hp 2 [(oC (setL (takeL 22 (dropL 0 q2)) 0 q1)),oC q2])) none) none) undef) (done_bb2 h1 h2) (eE))) ?_
 replace hm:=bb_inv hm;obtain ⟨h3,hm⟩:=hm
 refine .ghs (fr 19 [(2,(pt 0 0))]) (hp 1 [(oC (setL (takeL 22 (dropL 0 q2)) 0 q1))]) (.k [0] [] [.tmp 2 false] [2] ⟨trF h3,trivial⟩) ?_
 refine .ret ?_
 replace hm:=bb_inv hm;obtain ⟨h4,hm⟩:=hm
 replace hm:=bb_inv hm;obtain ⟨h5,hm⟩:=hm
 exact fin_ret (.agg ⟨(takeL 22 (dropL 0 (setL (takeL 22 (dropL 0 q2)) 0 q1)))⟩) (aresults_of (aresultsL_cons (show aresult _ _ _ _ = some (.agg ⟨(takeL 22 (dropL 0 (setL (takeL 22 (dropL 0 q2)) 0 q1)))⟩) from (eq_bb (c:=(Nat.ble (0 + 22) (len (setL (takeL 22 (dropL 0 q2)) 0 q1)))) (by kernel_rfl) h4)) rfl) (by kernel_rfl)) h5 hm
theorem r28 {call:CallF} (pu:PureF) (n:Nat) (hcall:call = callP tabs isP pu (inl pu)) {args:LV} {v:Value} (hm:m28 pu n args = some v) (_:∀ x ∈ args,closed2 x = true):args.length≤19∧Run tt call 0 c28_20 (Fr.made 19 args) (pureHeap tabs) (Fin tt 0 [.cell 2 54] v):=by
 subst hcall
 unfold m28 at hm
 replace hm:=ll_uncons hm;obtain ⟨a0,args_0,rfl,hm⟩:=hm
 replace hm:=ll_end hm;obtain ⟨rfl,hm⟩:=hm
 replace hm:=inv_toSl hm;obtain ⟨s0,rfl,hm⟩:=hm
 unfold m28_ at hm
 refine ⟨by simp,?_⟩
 refine .same (F':=(fr 19 [(0,Sl.v 1 s0)])) (H':=(hp 0 [])) (by kernel_rfl) (by kernel_rfl) ?_
 refine .then (.rK ?_)
 replace hm:=bb_inv hm;obtain ⟨h0,hm⟩:=hm
 refine .ghs (fr 19 [(0,Sl.v 1 s0),(2,(pt 0 0))]) (hp 1 [oC zA54]) (.k [0] [] [.tmp 2 false] [0,2] ⟨trF h0,trivial⟩) ?_
 refine .then (.rK ?_)
 refine .ghs (fr 19 [(0,Sl.v 1 s0),(2,(pt 0 0)),(3,pt 1 0)]) (hp 2 [oC zA54,oC zA54]) (.k [0,1] [] [.tmp 2 false,.tmp 3 false] [0,2,3] ⟨trF h0,trF h0,trivial⟩) ?_
 refine .join (v:=v) (fun y:LV×LV=>((fr 19 [(2,(pt 0 0)),(3,pt 1 0)]),(hp 2 [(oC y.1),(oC y.2)]))) (fun y=>m28_0 pu n y.1 y.2) ?_ ?_
 ·rintro ⟨q1, q2⟩ hm
  exact w28_0 pu n q1 q2 hm
 ·refine .then (.rK ?_)
  refine .ghs (fr 19 [(2,(pt 0 0)),(3,pt 1 0),(6,Sl.v 1 s0),(7,(zI (Int.ofNat (Sl.n s0)))),(8,(zI (0:Int)))]) (hp 2 [oC zA54,oC zA54]) (.k [0,1] [] [.tmp 2 false,.tmp 3 false] [2,3,6,7,8] ⟨trF h0,trF h0,trivial⟩) ?_
  refine .block ?_
  refine .loopM (v:=v) (fun y:Sl×Int×Int×LV×LV=>((fr 19 [(2,(pt 0 0)),(3,pt 1 0),(6,(Sl.v 1 y.1)),(7,(zI y.2.1)),(8,(zI y.2.2.1))]),(hp 2 [(oC y.2.2.2.1),(oC y.2.2.2.2)]))) (fun w y=>l28_1 pu n w y.1 y.2.1 y.2.2.1 y.2.2.2.1 y.2.2.2.2) n ⟨(s0,(Int.ofNat (Sl.n s0)),(0:Int),zA54,zA54),hm,(.k [0,1] [] [.tmp 2 false,.tmp 3 false] [2,3,6,7,8] ⟨trF h0,trF h0,trivial⟩)⟩ (fun _=>rfl) ?_
  rintro w0 ⟨s1,z0,z1,q3,q4⟩ hm
  replace hm:b28_1 pu n (l28_1 pu n w0) s1 z0 z1 q3 q4 = some v:=hm
  unfold b28_1 at hm
  refine .then (.rK ?_)
  replace hm:=bb_inv hm;obtain ⟨h1,hm⟩:=hm
  replace hm:=bb_inv hm;obtain ⟨h2,hm⟩:=hm
  refine .ghs (fr 19 [(2,(pt 0 0)),(3,pt 1 0),(6,Sl.v 1 s1),(7,zI z0),(8,zI z1),(9,(zB (ilt z1 z0)))]) (hp 2 [oC q3,oC q4]) (.k [0,1] [] [.tmp 2 false,.tmp 3 false] [2,3,6,7,8,9] ⟨trF h1,trF h2,trivial⟩) ?_
  refine .then ?_
  replace hm:=bb_cases hm;rcases hm with ⟨h3,hm⟩ | ⟨h3,hm⟩
  ·refine .ifT (ilt z1 z0) (by kernel_rfl) h3 ?_
   refine .skip ?_
   refine .ghs (fr 19 [(2,(pt 0 0)),(3,pt 1 0),(6,Sl.v 1 s1),(7,zI z0),(8,zI z1)]) (hp 2 [oC q3,oC q4]) (.k [0,1] [] [.tmp 2 false,.tmp 3 false] [2,3,6,7,8] ⟨trF h1,trF h2,trivial⟩) ?_
   refine .then ?_
   refine .block ?_
   refine .then ?_
   replace hm:=oo_inv hm;obtain ⟨k1,h4,hm⟩:=hm
   obtain rfl:=toN_some h4
   replace hm:=bb_inv hm;obtain ⟨h5,hm⟩:=hm
   replace hm:=oo_inv hm;obtain ⟨v0,h6,hm⟩:=hm
   replace hm:=inv_toI hm;obtain ⟨x0,rfl,hm⟩:=hm
   refine .reg (eD (keep (hp 2 [oC q3,oC q4]) (bb (an (Nat.blt k1 (Sl.n s1)) true) (some (fpV (k1 * 1) (Sl.cs s1))) none)) (keep_bb h5) (eD (keep (hp 2 [oC q3,oC q4]) (nthL (Sl.cs s1) (k1 * 1))) (keep_eq h6) (eE))) ?_
   refine .ghs (fr 19 [(2,(pt 0 0)),(3,pt 1 0),(5,zI x0),(6,Sl.v 1 s1),(7,zI z0),(8,(zI (Int.ofNat k1)))]) (hp 2 [oC q3,oC q4]) (.k [0,1] [] [.tmp 2 false,.tmp 3 false] [2,3,5,6,7,8] ⟨trF h1,trF h2,trivial⟩) ?_
   replace hm:=oo_inv hm;obtain ⟨k2,h7,hm⟩:=hm
   obtain rfl:=toN_some h7
   replace hm:=bb_inv hm;obtain ⟨h8,hm⟩:=hm
   replace hm:=oo_inv hm;obtain ⟨v1,h9,hm⟩:=hm
   replace hm:=inv_toI hm;obtain ⟨x1,rfl,hm⟩:=hm
   replace hm:=bb_inv hm;obtain ⟨h10,hm⟩:=hm
   replace hm:=bb_inv hm;obtain ⟨h11,hm⟩:=hm
   refine .reg (eC 1 (keep (hp 2 [oC q3,oC q4]) (bb (Nat.blt k2 22) (some (.pointer (some ⟨1,(0 + k2 * 1),none⟩))) none)) (keep_bb h8) (eD (keep (hp 2 [oC q3,oC q4]) (nthL q4 (0 + k2 * 1))) (keep_eq h9) (eC 1 (keep (hp 2 [oC q3,oC q4]) (bb (Nat.blt k2 22) (some (.pointer (some ⟨1,(0 + k2 * 1),none⟩))) none)) (keep_bb h10) (eD (done (bb (an (Nat.ble ((0 + k2 * 1) + 1) (len q4)) true) (some (hp 2 [oC q3,(oC (setL ([(zI (wrapF .i64 (Int.add x1 (1:Int))))]:LV) (0 + k2 * 1) q4))])) none) undef) (done_bb h11) (eE))))) ?_
   replace hm:=bb_inv hm;obtain ⟨h12,hm⟩:=hm
   refine .ghs (fr 19 [(2,(pt 0 0)),(3,pt 1 0),(6,Sl.v 1 s1),(7,zI z0),(8,(zI (Int.ofNat k1)))]) (hp 2 [oC q3,(oC (setL ([(zI (wrapF .i64 (Int.add x1 (1:Int))))]:LV) (0 + k2 * 1) q4))]) (.k [0,1] [] [.tmp 2 false,.tmp 3 false] [2,3,6,7,8] ⟨trF h1,trF h12,trivial⟩) ?_
   refine .rK ?_
   exact ⟨(s1,z0,(wrapF .i64 (Int.add (Int.ofNat k1) (1:Int))),q3,(setL ([(zI (wrapF .i64 (Int.add x1 (1:Int))))]:LV) (0 + k2 * 1) q4)),hm,(.k [0,1] [] [.tmp 2 false,.tmp 3 false] [2,3,6,7,8] ⟨trF h1,trF h12,trivial⟩)⟩
  ·refine .ifF (ilt z1 z0) (by kernel_rfl) h3 ?_
   refine .exit ?_
   exact ⟨(q3,q4),hm,(.k [0,1] [] [.tmp 2 false,.tmp 3 false] [2,3] ⟨trF h1,trF h2,trivial⟩)⟩
end
end Go.HzLM
