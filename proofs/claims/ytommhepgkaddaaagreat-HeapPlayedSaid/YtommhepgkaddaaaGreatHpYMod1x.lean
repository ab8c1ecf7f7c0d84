/- Made from wip. -/
import Derived.Test.YtommhepgkaddaaaGreatSpSortKx
import Derived.Test.YtommhepgkaddaaaGreatHpYCode
import Derived.KernelRfl

set_option maxRecDepth 100000
namespace Go.Sp
theorem Weak.cap (id off sz ln m:Nat):Weak (.slice (some ⟨id,off,some sz⟩) ln (2 * m + 1)) (.slice (some ⟨id,off,some sz⟩) ln (2 * m)):=fun R u h=>by
 have e1:(2 * m + 1) / 2 = m:=by omega
 have e2:2 * m / 2 = m:=by omega
 cases h with
 | sl h h1 h2 h3 h4 =>
  rw [e1] at h1 h2
  exact .sl h (by rw [e2];exact h1) (by rw [e2];exact h2) (fun h=>by omega) h4
 | slE h=>exact .slE (by omega)
 | slN h=>exact .slN (by omega)
end Go.Sp
namespace Go.HpYM
open Go.Sp Go.HpY
noncomputable section
def orc41 (args:List Value):Option Value:=
 ll args none fun a r => ll r none fun b r => ll r (oo (toSl 1 a) none fun s => oo (toI .i64 b) none fun z => oo (toN z) none fun k => ll s.cs none fun x r => ll r (oo (toI .i64 x) none fun y => bb (an (Nat.beq s.n 1) (Nat.ble k 21))
  (some (Sl.v 1 ⟨k,0,zeroRow [.int .i64 y] k⟩)) none) fun _ _=>none) fun _ _=>none
def orc42 (args:List Value):Option Value:=
 ll args none fun a r=>ll r (oo (toSl 1 a) none fun s=>ll s.cs none fun x r=>ll r none fun y r=>ll r (oo (toSl 1 x) none fun u=>oo (toSl 1 y) none fun v=>oo (mapO (toSl 1) u.cs) none fun us=>oo (mapO (toSl 1) v.cs) none fun vs=>
  bb (an (Nat.beq s.n 2) (an (Nat.beq s.fl 0) (an (Nat.beq u.fl 0) (an (Nat.beq v.fl 0) (an (Nat.beq u.n (len us)) (an (Nat.beq v.n (len vs)) (an (Nat.ble 1 (len us)) (Nat.ble (len us + len vs) 7))))))))
   (some (Sl.v 1 ⟨len us + len vs,0,appL u.cs v.cs⟩)) none) fun _ _=>none) fun _ _=>none
def orc14 (_:List Value):Option Value:=none
def identF (args:List Value) (H:AHeap):Option (Value×AHeap):=ll args none fun a r=>ll r (AHeap.rec (motive:=fun _=>Option (Value×AHeap)) (fun k T z=>bb z (some (a,⟨k,T,true⟩)) none) H) fun _ _=>none
theorem identEv (a:Value) (k:Nat) (T:Tr AObj):evFn tt fns 2 15 [a] ⟨k,T,true⟩ = some (a,⟨k,T,true⟩):=by kernel_rfl
theorem ident15_ok {P : Program} (hT : TOk P tt) (hf : ∀ f r, fns f = some r → FnOk P [] f r) (hm : P.follows .mixedOrders = true) {args : List Value} {H H' : AHeap} {v : Value} (h : identF args H = some (v, H')) :
 (∀ (as:Array Value) (w:World),(callFunc 15 as).run P w = .ok (.enter 15 as) w) ∧
 ∀ R w args',Sim H R w→GlR [] R→VRL R args args'→Calls P 15 ⟨args'⟩ w fun e w'=>∃ u R',e = .returned u∧VR R' v u∧Post H R w H' R' w':=by
 obtain ⟨a,r,rfl,h⟩:=ll_uncons h
 obtain ⟨rfl,h⟩:=ll_end h
 obtain ⟨k,T,z⟩:=H
 obtain ⟨hz,h⟩:=bb_inv (show bb z _ none = some _ from h)
 subst hz
 injection h with h
 injection h with h1 h2
 subst h1;subst h2
 exact (evFn_ok hT hf hm 2) 15 _ _ _ _ (identEv a k T)
end
end Go.HpYM
set_option maxRecDepth 100000
set_option maxHeartbeats 20000000
set_option linter.unusedVariables false
namespace Go.HpYM
open Go.Sp Go.HpY
noncomputable section
def tabs:List (List Value):=[]
theorem trF {a b:Bool} (h:b = true) (e:a = b:=by kernel_rfl):a = true:=e.trans h
abbrev OV:=Option Value
abbrev LV:=List Value
def plist:List Nat:=[3,4,5,6,7,8,9,10,11,12,13,14,18,19,20,22,23,24,25,26,27,28,40,43]
def isP:FuncId→Bool:=fun g=>memN g plist
def inl (pu:PureF):CallF:=fun g args H=>bb (Nat.beq g 15) (identF args H) (bb (Nat.beq g 16) (sortF args H) (bb (Nat.beq g 21) (liveF tabs 1 (pu 21) args H) (bb (Nat.beq g 41) (giveF tabs 1 (pu 41) args H) (bb (Nat.beq g 42) (giveF tabs 1 (pu 42) args H) (bb (Nat.beq g 17) (objG tabs [[none]] 1 [.tmp 0 false] [false] (pu 10170) args H) (none))))))
def zA46:LV:=[(.int .i64 (0:Int)),(.int .i64 (0:Int)),(.int .i64 (0:Int)),(.int .i64 (0:Int)),(.int .i64 (0:Int)),(.int .i64 (0:Int)),(.int .i64 (0:Int)),(.int .i64 (0:Int)),(.int .i64 (0:Int)),(.int .i64 (0:Int)),(.int .i64 (0:Int)),(.int .i64 (0:Int)),(.int .i64 (0:Int)),(.int .i64 (0:Int)),(.int .i64 (0:Int)),(.int .i64 (0:Int)),(.int .i64 (0:Int)),(.int .i64 (0:Int)),(.int .i64 (0:Int)),(.int .i64 (0:Int)),(.int .i64 (0:Int)),(.int .i64 (0:Int))]
end
end Go.HpYM
set_option maxRecDepth 100000
set_option maxHeartbeats 20000000
set_option linter.unusedVariables false
namespace Go.HpYM
open Go.Sp Go.HpY
noncomputable section
def m3_8 (pu:PureF) (n:Nat) (b0:Bool):OV:=
 (some (.bool b0))
def m3_7 (pu:PureF) (n:Nat) (s0 s1:Sl):OV:=
 (bb (an (Nat.blt 0 (Sl.n s0)) true) (oo (nthL (Sl.cs s0) (0 * 1)) none fun v0=>(oo (toSl 1 v0) none fun s2=>(oo (pu 6 [Sl.v 1 s1,Sl.v 1 s2]) none fun v1=>(oo (vBool v1) none fun b0=>(bb b0 (oo (pu 14 []) none fun v2=>(oo (vBool v2) none fun b1=>(m3_8 pu n b1))) (m3_8 pu n false)))))) none)
def b3_9 (pu:PureF) (n:Nat) (ih0:Sl→Sl→Sl→Int→Int→OV) (s0 s1 s2:Sl) (z0 z1:Int):OV:=
 (bb (ilt z1 z0) (oo (toN z1) none fun k1=>(bb (an (Nat.blt k1 (Sl.n s2)) true) (oo (nthL (Sl.cs s2) (k1 * 1)) none fun v0=>(oo (toSl 1 v0) none fun s3=>(oo (pu 6 [Sl.v 1 s3,Sl.v 1 s1]) none fun v1=>(oo (vBool v1) none fun b0=>(bb (nt b0) (some (.bool false)) (oo (pu 7 [Sl.v 1 s1]) none fun v2=>(oo (toSl 1 v2) none fun s4=>(ih0 s0 s4 s2 z0 (wrapF .i64 (Int.add (Int.ofNat k1) (1:Int))))))))))) none)) (m3_7 pu n s0 s1))
def l3_9 (pu:PureF) (n w:Nat):Sl→Sl→Sl→Int→Int→OV:=
 Nat.rec (motive:=fun _=>Sl→Sl→Sl→Int→Int→OV) (fun _ _ _ _ _=>none) (fun _ ih0=>b3_9 pu n ih0) w
def m3_6 (pu:PureF) (n:Nat) (s0 s1:Sl):OV:=
 (l3_9 pu n n s0 s1 s0 (Int.ofNat (Sl.n s0)) (0:Int))
def m3_11 (pu:PureF) (n:Nat) (ih0:Sl→Sl→Sl→Int→Int→OV) (s0 s1 s2:Sl) (z0 z1:Int):OV:=
 (ih0 s0 s1 s2 z0 (wrapF .i64 (Int.add z1 (1:Int))))
def b3_10 (pu:PureF) (n:Nat) (ih0:Sl→Sl→Sl→Int→Int→OV) (s0 s1 s2:Sl) (z0 z1:Int):OV:=
 (bb (ilt z1 z0) (oo (pu 7 [Sl.v 1 s0]) none fun v0=>(oo (toSl 1 v0) none fun s3=>(oo (pu 13 [Sl.v 1 s3,Sl.v 1 s2]) none fun v1=>(oo (toI .i64 v1) none fun x0=>(bb (ilt x0 (0:Int)) (m3_11 pu n ih0 s3 s1 s3 z0 z1) (m3_11 pu n ih0 s3 s1 s2 z0 z1)))))) (m3_6 pu n s1 s2))
def l3_10 (pu:PureF) (n w:Nat):Sl→Sl→Sl→Int→Int→OV:=
 Nat.rec (motive:=fun _=>Sl→Sl→Sl→Int→Int→OV) (fun _ _ _ _ _=>none) (fun _ ih0=>b3_10 pu n ih0) w
def m3_5 (pu:PureF) (n:Nat) (s0 s1:Sl):OV:=
 (oo (pu 12 [Sl.v 1 s0]) none fun v0=>(oo (vBool v0) none fun b0=>(bb (nt b0) (some (.bool false)) (l3_10 pu n n s0 s1 s0 (Int.ofNat (Sl.n s1)) (0:Int)))))
def b3_12 (pu:PureF) (n:Nat) (ih0:Sl→Int→Sl→Int→OV) (s0:Sl) (z0:Int) (s1:Sl) (z1:Int):OV:=
 (bb (ilt z1 z0) (oo (pu 12 [Sl.v 1 s0]) none fun v0=>(oo (vBool v0) none fun b0=>(bb b0 (some (.bool false)) (oo (pu 7 [Sl.v 1 s0]) none fun v1=>(oo (toSl 1 v1) none fun s2=>(ih0 s2 z0 s1 (wrapF .i64 (Int.add z1 (1:Int))))))))) (m3_5 pu n s0 s1))
def l3_12 (pu:PureF) (n w:Nat):Sl→Int→Sl→Int→OV:=
 Nat.rec (motive:=fun _=>Sl→Int→Sl→Int→OV) (fun _ _ _ _=>none) (fun _ ih0=>b3_12 pu n ih0) w
def m3_4 (pu:PureF) (n:Nat) (s0:Sl) (z0:Int) (s1:Sl) (b0:Bool):OV:=
 (bb b0 (some (.bool false)) (l3_12 pu n n s0 z0 s1 (0:Int)))
def m3_3 (pu:PureF) (n:Nat) (s0 s1:Sl) (b0:Bool):OV:=
 (bb b0 (some (.bool false)) (oo (pu 10 [Sl.v 1 s0]) none fun v0=>(oo (vTup v0) none fun l0=>(ll l0 none fun v1 l0=>(ll l0 none fun v2 l0=>(ll l0 (oo (toI .i64 v1) none fun x0=>(oo (toI .i64 v2) none fun x1=>(oo (pu 10 [Sl.v 1 s1]) none fun v3=>(oo (vTup v3) none fun l1=>(ll l1 none fun v4 l1=>(ll l1 none fun v5 l1=>(ll l1 (oo (toI .i64 v4) none fun x2=>(oo (toI .i64 v5) none fun x3=>(oo (pu 11 [Sl.v 1 s0]) none fun v6=>(oo (vTup v6) none fun l2=>(ll l2 none fun v7 l2=>(ll l2 none fun v8 l2=>(ll l2 (oo (toSl 1 v7) none fun s2=>(oo (toI .i64 v8) none fun x4=>(bb (nt (ieq x1 (0:Int))) (m3_4 pu n s0 x0 s2 true) (bb (nt (ieq x3 (0:Int))) (m3_4 pu n s0 x0 s2 true) (bb (nt (ieq x4 (0:Int))) (m3_4 pu n s0 x0 s2 true) (bb (ilt x0 (0:Int)) (m3_4 pu n s0 x0 s2 true) (bb (ilt (100:Int) x0) (m3_4 pu n s0 x0 s2 true) (bb (ieq (Int.ofNat (Sl.n s2)) (0:Int)) (m3_4 pu n s0 x0 s2 true) (bb (ilt (21:Int) (Int.ofNat (Sl.n s2))) (m3_4 pu n s0 x0 s2 true) (m3_4 pu n s0 x0 s2 (nt (ieq x2 (bb (ilt (0:Int) (wrapF .i64 (Int.sub x0 (1:Int)))) (wrapF .i64 (Int.sub x0 (1:Int))) (0:Int)))))))))))))) fun _ _=>none))))))) fun _ _=>none))))))) fun _ _=>none))))))
def m3_2 (pu:PureF) (n:Nat) (s0 s1:Sl) (z0 z1:Int) (s2:Sl) (b0:Bool):OV:=
 (bb b0 (some (.bool false)) (oo (pu 9 [Sl.v 1 s2,.int .i64 z1]) none fun v0=>(oo (vTup v0) none fun l0=>(ll l0 none fun v1 l0=>(ll l0 none fun v2 l0=>(ll l0 (oo (toSl 1 v1) none fun s3=>(oo (toI .i64 v2) none fun x0=>(oo (pu 9 [Sl.v 1 s0,(.int .i64 (wrapF .i64 (Int.add z0 z1)))]) none fun v3=>(oo (vTup v3) none fun l1=>(ll l1 none fun v4 l1=>(ll l1 none fun v5 l1=>(ll l1 (oo (toSl 1 v4) none fun s4=>(oo (toI .i64 v5) none fun x1=>(bb (nt (ieq x0 (0:Int))) (m3_3 pu n s0 s1 true) (bb (nt (ieq x1 (0:Int))) (m3_3 pu n s0 s1 true) (oo (pu 6 [Sl.v 1 s3,Sl.v 1 s4]) none fun v6=>(oo (vBool v6) none fun b1=>(m3_3 pu n s0 s1 (nt b1)))))))) fun _ _=>none))))))) fun _ _=>none))))))
def m3_1 (pu:PureF) (n:Nat) (s93 s94:Sl) (z95 z96:Int) (s97:Sl):OV:=
 (oo (pu 9 [Sl.v 1 s93,.int .i64 z95]) none fun v0=>(oo (vTup v0) none fun l0=>(ll l0 none fun v1 l0=>(ll l0 none fun v2 l0=>(ll l0 (oo (toSl 1 v1) none fun s0=>(oo (toI .i64 v2) none fun x0=>(bb (nt (ieq x0 (0:Int))) (m3_2 pu n s93 s94 z95 z96 s0 true) (oo (pu 6 [Sl.v 1 s0,Sl.v 1 s97]) none fun v3=>(oo (vBool v3) none fun b0=>(m3_2 pu n s93 s94 z95 z96 s0 (nt b0))))))) fun _ _=>none)))))
def b3_13 (pu:PureF) (n:Nat) (ih0:Sl→Sl→Int→Int→Sl→Int→Int→OV) (s0 s1:Sl) (z0 z1:Int) (s2:Sl) (z2 z3:Int):OV:=
 (bb (ilt z3 z2) (oo (pu 7 [Sl.v 1 s2]) none fun v0=>(oo (toSl 1 v0) none fun s3=>(ih0 s0 s1 z0 z1 s3 z2 (wrapF .i64 (Int.add z3 (1:Int)))))) (m3_1 pu n s0 s1 z0 z1 s2))
def l3_13 (pu:PureF) (n w:Nat):Sl→Sl→Int→Int→Sl→Int→Int→OV:=
 Nat.rec (motive:=fun _=>Sl→Sl→Int→Int→Sl→Int→Int→OV) (fun _ _ _ _ _ _ _=>none) (fun _ ih0=>b3_13 pu n ih0) w
def m3_0 (pu:PureF) (n:Nat) (z71 z72:Int) (s73 s74:Sl) (b75:Bool):OV:=
 (bb b75 (some (.bool false)) (l3_13 pu n n s73 s74 (Int.tmod (wrapF .i64 z71) (300:Int)) (Int.tmod (wrapF .i64 z72) (300:Int)) s73 (Int.tmod (wrapF .i64 z71) (300:Int)) (0:Int)))
def m3_ (pu:PureF) (n:Nat) (s1:Sl) (x3 x5:Int):OV:=
 (oo (pu 4 [Sl.v 1 s1,(.int .i64 (21:Int))]) none fun v11=>(oo (toSl 1 v11) none fun s13=>(oo (pu 5 [Sl.v 1 s13]) none fun v25=>(oo (vTup v25) none fun l27=>(ll l27 none fun v29 l27=>(ll l27 none fun v30 l27=>(ll l27 (oo (toSl 1 v29) none fun s31=>(oo (toI .i64 v30) none fun x33=>(bb (nt (ieq x33 (0:Int))) (m3_0 pu n x3 x5 s13 s31 true) (oo (pu 7 [Sl.v 1 s13]) none fun v0=>(oo (toSl 1 v0) none fun s0=>(oo (pu 6 [Sl.v 1 s31,Sl.v 1 s0]) none fun v1=>(oo (vBool v1) none fun b0=>(bb (nt b0) (m3_0 pu n x3 x5 s13 s31 true) (oo (pu 8 [Sl.v 1 s31]) none fun v2=>(oo (toI .i64 v2) none fun x0=>(oo (pu 8 [Sl.v 1 s13]) none fun v3=>(oo (toI .i64 v3) none fun x1=>(m3_0 pu n x3 x5 s13 s31 (nt (ieq x0 x1))))))))))))))) fun _ _=>none)))))))
def m3 (pu:PureF) (n:Nat) (args:LV):OV:=
 (ll args none fun a0 args=>(ll args none fun a1 args=>(ll args none fun a2 args=>(ll args (oo (toSl 1 a0) none fun s1=>(oo (toI .u16 a1) none fun x3=>(oo (toI .u16 a2) none fun x5=>(m3_ pu n s1 x3 x5)))) fun _ _=>none))))
theorem w3_8 (pu:PureF) (n:Nat) (b0:Bool) {v:Value} (hm:m3_8 pu n b0 = some v):Run tt (callP tabs isP pu (inl pu)) 0 .ret (fr 198 [(6,zB b0)]) (hp 0 []) (Fin tt 0 [.tmp 6] v):=by
 unfold m3_8 at hm
 refine .ret ?_
 exact fin_ret (zB b0) (by kernel_rfl) (by kernel_rfl) hm
theorem w3_7 (pu:PureF) (n:Nat) (s0 s1:Sl) {v:Value} (hm:m3_7 pu n s0 s1 = some v):Run tt (callP tabs isP pu (inl pu)) 0 c3_106 (fr 198 [(20,Sl.v 1 s0),(22,Sl.v 1 s1)]) (hp 0 []) (Fin tt 0 [.tmp 6] v):=by
 unfold m3_7 at hm
 refine .join (v:=v) (fun y:Bool=>((fr 198 [(6,zB y)]),(hp 0 []))) (fun y=>m3_8 pu n y) ?_ ?_
 ·rintro b0 hm
  exact w3_8 pu n b0 hm
 ·replace hm := bb_inv hm; obtain ⟨h0, hm⟩ := hm
  replace hm:=oo_inv hm;obtain ⟨v0,h1,hm⟩:=hm
  replace hm:=inv_toSl hm;obtain ⟨s2,rfl,hm⟩:=hm
  replace hm:=oo_inv hm;obtain ⟨v1,h2,hm⟩:=hm
  replace hm:=inv_vBool hm;obtain ⟨b1,rfl,hm⟩:=hm
  replace hm:=bb_cases hm;rcases hm with ⟨h3,hm⟩ | ⟨h3,hm⟩
  ·replace hm := oo_inv hm; obtain ⟨v2, h4, hm⟩ := hm
   replace hm:=inv_vBool hm;obtain ⟨b2,rfl,hm⟩:=hm
   refine .reg (eC 2 (keep (hp 0 []) (bb (an (Nat.blt 0 (Sl.n s0)) true) (some (fpV (0 * 1) (Sl.cs s0))) none)) (keep_bb h0) (eD (keep (hp 0 []) (nthL (Sl.cs s0) (0 * 1))) (keep_eq h1) (eD ((oo (pu 6 [Sl.v 1 s1,Sl.v 1 s2]) none fun v=>some (v,(hp 0 [])))) (show _ = some ((zB true),_) from (by have hz:(oo (pu 6 [Sl.v 1 s1,Sl.v 1 s2]) none fun v=>some (v,(hp 0 []))) = some ((zB b1),(hp 0 [])):=(call_eq h2);rw [h3] at hz;exact hz)) (eC 1 ((oo (pu 14 []) none fun v=>some (v,(hp 0 [])))) (call_eq h4) (eE))))) ?_
   exact ⟨b2,hm,(.k0 [] [] [6])⟩
  ·refine .reg (eC 2 (keep (hp 0 []) (bb (an (Nat.blt 0 (Sl.n s0)) true) (some (fpV (0 * 1) (Sl.cs s0))) none)) (keep_bb h0) (eD (keep (hp 0 []) (nthL (Sl.cs s0) (0 * 1))) (keep_eq h1) (eD ((oo (pu 6 [Sl.v 1 s1, Sl.v 1 s2]) none fun v => some (v, (hp 0 [])))) (show _ = some ((zB false), _) from (by have hz : (oo (pu 6 [Sl.v 1 s1, Sl.v 1 s2]) none fun v => some (v, (hp 0 []))) = some ((zB b1), (hp 0 [])) := (call_eq h2); rw [h3] at hz; exact hz)) (eE)))) ?_
   exact ⟨false,hm,(.k0 [] [] [6])⟩
theorem w3_6 (pu:PureF) (n:Nat) (s0 s1:Sl) {v:Value} (hm:m3_6 pu n s0 s1 = some v):Run tt (callP tabs isP pu (inl pu)) 0 c3_107 (fr 198 [(20,Sl.v 1 s0),(22,Sl.v 1 s1)]) (hp 0 []) (Fin tt 0 [.tmp 6] v):=by
 unfold m3_6 at hm
 refine .join (v:=v) (fun y:Sl×Sl=>((fr 198 [(20,(Sl.v 1 y.1)),(22,(Sl.v 1 y.2))]),(hp 0 []))) (fun y=>m3_7 pu n y.1 y.2) ?_ ?_
 ·rintro ⟨s2, s3⟩ hm
  exact w3_7 pu n s2 s3 hm
 ·refine .then (.rK ?_)
  refine .ghs (fr 198 [(20,Sl.v 1 s0),(22,Sl.v 1 s1),(177,Sl.v 1 s0),(178,(zI (Int.ofNat (Sl.n s0)))),(179,(zI (0:Int)))]) (hp 0 []) (.k0 [] [] [20,22,177,178,179]) ?_
  refine .block ?_
  refine .loopM (v:=v) (fun y:Sl×Sl×Sl×Int×Int=>((fr 198 [(20,(Sl.v 1 y.1)),(22,(Sl.v 1 y.2.1)),(177,(Sl.v 1 y.2.2.1)),(178,(zI y.2.2.2.1)),(179,(zI y.2.2.2.2))]),(hp 0 []))) (fun w y=>l3_9 pu n w y.1 y.2.1 y.2.2.1 y.2.2.2.1 y.2.2.2.2) n ⟨(s0,s1,s0,(Int.ofNat (Sl.n s0)),(0:Int)),hm,(.k0 [] [] [20,22,177,178,179])⟩ (fun _=>rfl) ?_
  rintro w0 ⟨s4,s5,s6,z0,z1⟩ hm
  replace hm:b3_9 pu n (l3_9 pu n w0) s4 s5 s6 z0 z1 = some v:=hm
  unfold b3_9 at hm
  refine .then (.rK ?_)
  refine .ghs (fr 198 [(20,Sl.v 1 s4),(22,Sl.v 1 s5),(177,Sl.v 1 s6),(178,zI z0),(179,zI z1),(180,(zB (ilt z1 z0)))]) (hp 0 []) (.k0 [] [] [20,22,177,178,179,180]) ?_
  refine .then ?_
  replace hm:=bb_cases hm;rcases hm with ⟨h0,hm⟩ | ⟨h0,hm⟩
  ·refine .ifT (ilt z1 z0) (by kernel_rfl) h0 ?_
   refine .skip ?_
   refine .ghs (fr 198 [(20,Sl.v 1 s4),(22,Sl.v 1 s5),(177,Sl.v 1 s6),(178,zI z0),(179,zI z1)]) (hp 0 []) (.k0 [] [] [20,22,177,178,179]) ?_
   refine .then ?_
   refine .block ?_
   refine .then ?_
   replace hm:=oo_inv hm;obtain ⟨k1,h1,hm⟩:=hm
   obtain rfl:=toN_some h1
   replace hm:=bb_inv hm;obtain ⟨h2,hm⟩:=hm
   replace hm:=oo_inv hm;obtain ⟨v0,h3,hm⟩:=hm
   replace hm:=inv_toSl hm;obtain ⟨s7,rfl,hm⟩:=hm
   refine .reg (eD (keep (hp 0 []) (bb (an (Nat.blt k1 (Sl.n s6)) true) (some (fpV (k1 * 1) (Sl.cs s6))) none)) (keep_bb h2) (eD (keep (hp 0 []) (nthL (Sl.cs s6) (k1 * 1))) (keep_eq h3) (eE))) ?_
   refine .ghs (fr 198 [(20,Sl.v 1 s4),(22,Sl.v 1 s5),(24,Sl.v 1 s7),(177,Sl.v 1 s6),(178,zI z0),(179,(zI (Int.ofNat k1)))]) (hp 0 []) (.k0 [] [] [20,22,24,177,178,179]) ?_
   refine .then ?_
   refine .then ?_
   replace hm:=oo_inv hm;obtain ⟨v1,h4,hm⟩:=hm
   replace hm:=inv_vBool hm;obtain ⟨b0,rfl,hm⟩:=hm
   refine .reg (eC 2 ((oo (pu 6 [Sl.v 1 s7,Sl.v 1 s5]) none fun v=>some (v,(hp 0 [])))) (call_eq h4) (eE)) ?_
   refine .ghs (fr 198 [(20,Sl.v 1 s4),(22,Sl.v 1 s5),(177,Sl.v 1 s6),(178,zI z0),(179,(zI (Int.ofNat k1))),(186,(zB (nt b0)))]) (hp 0 []) (.k0 [] [] [20,22,177,178,179,186]) ?_
   replace hm:=bb_cases hm;rcases hm with ⟨h5,hm⟩ | ⟨h5,hm⟩
   ·refine .ifT (nt b0) (by kernel_rfl) h5 ?_
    refine .then (.rK ?_)
    refine .ghs (fr 198 [(6,zB false)]) (hp 0 []) (.k0 [] [] [6]) ?_
    refine .ret ?_
    exact fin_ret (zB false) (by kernel_rfl) (by kernel_rfl) hm
   ·refine .ifF (nt b0) (by kernel_rfl) h5 ?_
    refine .skip ?_
    refine .ghs (fr 198 [(20,Sl.v 1 s4),(22,Sl.v 1 s5),(177,Sl.v 1 s6),(178,zI z0),(179,(zI (Int.ofNat k1)))]) (hp 0 []) (.k0 [] [] [20,22,177,178,179]) ?_
    replace hm:=oo_inv hm;obtain ⟨v2,h6,hm⟩:=hm
    replace hm:=inv_toSl hm;obtain ⟨s8,rfl,hm⟩:=hm
    refine .reg (eC 1 ((oo (pu 7 [Sl.v 1 s5]) none fun v=>some (v,(hp 0 [])))) (call_eq h6) (eE)) ?_
    refine .ghs (fr 198 [(20,Sl.v 1 s4),(22,Sl.v 1 s8),(177,Sl.v 1 s6),(178,zI z0),(179,(zI (Int.ofNat k1)))]) (hp 0 []) (.k0 [] [] [20,22,177,178,179]) ?_
    refine .rK ?_
    exact ⟨(s4,s8,s6,z0,(wrapF .i64 (Int.add (Int.ofNat k1) (1:Int)))),hm,(.k0 [] [] [20,22,177,178,179])⟩
  ·refine .ifF (ilt z1 z0) (by kernel_rfl) h0 ?_
   refine .exit ?_
   exact ⟨(s4,s5),hm,(.k0 [] [] [20,22])⟩
theorem w3_5 (pu:PureF) (n:Nat) (s0 s1:Sl) {v:Value} (hm:m3_5 pu n s0 s1 = some v):Run tt (callP tabs isP pu (inl pu)) 0 c3_110 (fr 198 [(12,Sl.v 1 s0),(20,Sl.v 1 s1)]) (hp 0 []) (Fin tt 0 [.tmp 6] v):=by
 unfold m3_5 at hm
 refine .then ?_
 refine .then ?_
 replace hm:=oo_inv hm;obtain ⟨v0,h0,hm⟩:=hm
 replace hm:=inv_vBool hm;obtain ⟨b0,rfl,hm⟩:=hm
 refine .reg (eC 1 ((oo (pu 12 [Sl.v 1 s0]) none fun v=>some (v,(hp 0 [])))) (call_eq h0) (eE)) ?_
 refine .ghs (fr 198 [(12,Sl.v 1 s0),(20,Sl.v 1 s1),(163,(zB (nt b0)))]) (hp 0 []) (.k0 [] [] [12,20,163]) ?_
 replace hm:=bb_cases hm;rcases hm with ⟨h1,hm⟩ | ⟨h1,hm⟩
 ·refine .ifT (nt b0) (by kernel_rfl) h1 ?_
  refine .then (.rK ?_)
  refine .ghs (fr 198 [(6,zB false)]) (hp 0 []) (.k0 [] [] [6]) ?_
  refine .ret ?_
  exact fin_ret (zB false) (by kernel_rfl) (by kernel_rfl) hm
 ·refine .ifF (nt b0) (by kernel_rfl) h1 ?_
  refine .skip ?_
  refine .ghs (fr 198 [(12,Sl.v 1 s0),(20,Sl.v 1 s1)]) (hp 0 []) (.k0 [] [] [12,20]) ?_
  refine .then (.rK ?_)
  refine .ghs (fr 198 [(12,Sl.v 1 s0),(20,Sl.v 1 s1),(22,Sl.v 1 s0)]) (hp 0 []) (.k0 [] [] [12,20,22]) ?_
  refine .join (v:=v) (fun y:Sl×Sl=>((fr 198 [(20,(Sl.v 1 y.1)),(22,(Sl.v 1 y.2))]),(hp 0 []))) (fun y=>m3_6 pu n y.1 y.2) ?_ ?_
  ·rintro ⟨s2, s3⟩ hm
   exact w3_6 pu n s2 s3 hm
  ·refine .then (.rK ?_)
   refine .ghs (fr 198 [(12,Sl.v 1 s0),(20,Sl.v 1 s1),(22,Sl.v 1 s0),(166,(zI (Int.ofNat (Sl.n s1)))),(167,(zI (0:Int)))]) (hp 0 []) (.k0 [] [] [12,20,22,166,167]) ?_
   refine .block ?_
   refine .loopM (v:=v) (fun y:Sl×Sl×Sl×Int×Int=>((fr 198 [(12,(Sl.v 1 y.1)),(20,(Sl.v 1 y.2.1)),(22,(Sl.v 1 y.2.2.1)),(166,(zI y.2.2.2.1)),(167,(zI y.2.2.2.2))]),(hp 0 []))) (fun w y=>l3_10 pu n w y.1 y.2.1 y.2.2.1 y.2.2.2.1 y.2.2.2.2) n ⟨(s0,s1,s0,(Int.ofNat (Sl.n s1)),(0:Int)),hm,(.k0 [] [] [12,20,22,166,167])⟩ (fun _=>rfl) ?_
   rintro w0 ⟨s4,s5,s6,z0,z1⟩ hm
   replace hm:b3_10 pu n (l3_10 pu n w0) s4 s5 s6 z0 z1 = some v:=hm
   unfold b3_10 at hm
   refine .then (.rK ?_)
   refine .ghs (fr 198 [(12,Sl.v 1 s4),(20,Sl.v 1 s5),(22,Sl.v 1 s6),(166,zI z0),(167,zI z1),(168,(zB (ilt z1 z0)))]) (hp 0 []) (.k0 [] [] [12,20,22,166,167,168]) ?_
   refine .then ?_
   replace hm:=bb_cases hm;rcases hm with ⟨h2,hm⟩ | ⟨h2,hm⟩
   ·refine .ifT (ilt z1 z0) (by kernel_rfl) h2 ?_
    refine .skip ?_
    refine .ghs (fr 198 [(12,Sl.v 1 s4),(20,Sl.v 1 s5),(22,Sl.v 1 s6),(166,zI z0),(167,zI z1)]) (hp 0 []) (.k0 [] [] [12,20,22,166,167]) ?_
    refine .join (v:=v) (fun y:Sl×Sl×Sl×Int×Int=>((fr 198 [(12,(Sl.v 1 y.1)),(20,(Sl.v 1 y.2.1)),(22,(Sl.v 1 y.2.2.1)),(166,(zI y.2.2.2.1)),(167,(zI y.2.2.2.2))]),(hp 0 []))) (fun y=>m3_11 pu n (l3_10 pu n w0) y.1 y.2.1 y.2.2.1 y.2.2.2.1 y.2.2.2.2) ?_ ?_
    ·rintro ⟨s7, s8, s9, z2, z3⟩ hm
     unfold m3_11 at hm
     refine .rK ?_
     exact ⟨(s7,s8,s9,z2,(wrapF .i64 (Int.add z3 (1:Int)))),hm,(.k0 [] [] [12,20,22,166,167])⟩
    ·refine .block ?_
     refine .then ?_
     replace hm:=oo_inv hm;obtain ⟨v1,h3,hm⟩:=hm
     replace hm:=inv_toSl hm;obtain ⟨s10,rfl,hm⟩:=hm
     refine .reg (eC 1 ((oo (pu 7 [Sl.v 1 s4]) none fun v=>some (v,(hp 0 [])))) (call_eq h3) (eE)) ?_
     refine .ghs (fr 198 [(12,Sl.v 1 s10),(20,Sl.v 1 s5),(22,Sl.v 1 s6),(166,zI z0),(167,zI z1)]) (hp 0 []) (.k0 [] [] [12,20,22,166,167]) ?_
     refine .then ?_
     replace hm:=oo_inv hm;obtain ⟨v2,h4,hm⟩:=hm
     replace hm:=inv_toI hm;obtain ⟨x0,rfl,hm⟩:=hm
     refine .reg (eC 2 ((oo (pu 13 [Sl.v 1 s10,Sl.v 1 s6]) none fun v=>some (v,(hp 0 [])))) (call_eq h4) (eE)) ?_
     refine .ghs (fr 198 [(12,Sl.v 1 s10),(20,Sl.v 1 s5),(22,Sl.v 1 s6),(166,zI z0),(167,zI z1),(174,(zB (ilt x0 (0:Int))))]) (hp 0 []) (.k0 [] [] [12,20,22,166,167,174]) ?_
     replace hm:=bb_cases hm;rcases hm with ⟨h5,hm⟩ | ⟨h5,hm⟩
     ·refine .ifT (ilt x0 (0 : Int)) (by kernel_rfl) h5 ?_
      refine .rK ?_
      exact ⟨(s10,s5,s10,z0,z1),hm,(.k0 [] [] [12,20,22,166,167])⟩
     ·refine .ifF (ilt x0 (0 : Int)) (by kernel_rfl) h5 ?_
      refine .skip ?_
      exact ⟨(s10,s5,s6,z0,z1),hm,(.k0 [] [] [12,20,22,166,167])⟩
   ·refine .ifF (ilt z1 z0) (by kernel_rfl) h2 ?_
    refine .exit ?_
    exact ⟨(s5,s6),hm,(.k0 [] [] [20,22])⟩
theorem w3_1 (pu:PureF) (n:Nat) (s93 s94:Sl) (z95 z96:Int) (s97:Sl) {v:Value} (hm:m3_1 pu n s93 s94 z95 z96 s97 = some v):Run tt (callP tabs isP pu (inl pu)) 0 c3_121 (fr 198 [(7,Sl.v 1 s93),(8,Sl.v 1 s94),(10,zI z95),(11,zI z96),(12,Sl.v 1 s97)]) (hp 0 []) (Fin tt 0 [.tmp 6] v):=by
 unfold m3_1 at hm
 refine .then ?_
 replace hm:=oo_inv hm;obtain ⟨v0,h0,hm⟩:=hm
 replace hm:=inv_vTup hm;obtain ⟨l0,rfl,hm⟩:=hm
 replace hm:=ll_uncons hm;obtain ⟨v1,l110_0,rfl,hm⟩:=hm
 replace hm:=ll_uncons hm;obtain ⟨v2,l110_1,rfl,hm⟩:=hm
 replace hm:=ll_end hm;obtain ⟨rfl,hm⟩:=hm
 replace hm:=inv_toSl hm;obtain ⟨s0,rfl,hm⟩:=hm
 replace hm:=inv_toI hm;obtain ⟨x0,rfl,hm⟩:=hm
 refine .reg (eC 2 ((oo (pu 9 [Sl.v 1 s93,zI z95]) none fun v=>some (v,(hp 0 [])))) (call_eq h0) (eE)) ?_
 refine .ghs (fr 198 [(7,Sl.v 1 s93),(8,Sl.v 1 s94),(10,zI z95),(11,zI z96),(12,Sl.v 1 s97),(13,Sl.v 1 s0),(14,zI x0)]) (hp 0 []) (.k0 [] [] [7,8,10,11,12,13,14]) ?_
 refine .then ?_
 refine .join (v:=v) (fun y:Sl×Sl×Int×Int×Sl×Bool=>((fr 198 [(7,(Sl.v 1 y.1)),(8,(Sl.v 1 y.2.1)),(10,(zI y.2.2.1)),(11,(zI y.2.2.2.1)),(13,(Sl.v 1 y.2.2.2.2.1)),(74,(zB y.2.2.2.2.2))]),(hp 0 []))) (fun y=>m3_2 pu n y.1 y.2.1 y.2.2.1 y.2.2.2.1 y.2.2.2.2.1 y.2.2.2.2.2) ?_ ?_
 ·rintro ⟨s1, s2, z0, z1, s3, b0⟩ hm
  unfold m3_2 at hm
  replace hm:=bb_cases hm;rcases hm with ⟨h1,hm⟩ | ⟨h1,hm⟩
  ·refine .ifT b0 (by kernel_rfl) h1 ?_
   refine .then (.rK ?_)
   refine .ghs (fr 198 [(6,zB false)]) (hp 0 []) (.k0 [] [] [6]) ?_
   refine .ret ?_
   exact fin_ret (zB false) (by kernel_rfl) (by kernel_rfl) hm
  ·refine .ifF b0 (by kernel_rfl) h1 ?_
   refine .skip ?_
   refine .ghs (fr 198 [(7,Sl.v 1 s1),(8,Sl.v 1 s2),(10,zI z0),(11,zI z1),(13,Sl.v 1 s3)]) (hp 0 []) (.k0 [] [] [7,8,10,11,13]) ?_
   refine .then ?_
   replace hm:=oo_inv hm;obtain ⟨v3,h2,hm⟩:=hm
   replace hm:=inv_vTup hm;obtain ⟨l1,rfl,hm⟩:=hm
   replace hm:=ll_uncons hm;obtain ⟨v4,l147_0,rfl,hm⟩:=hm
   replace hm:=ll_uncons hm;obtain ⟨v5,l147_1,rfl,hm⟩:=hm
   replace hm:=ll_end hm;obtain ⟨rfl,hm⟩:=hm
   replace hm:=inv_toSl hm;obtain ⟨s4,rfl,hm⟩:=hm
   replace hm:=inv_toI hm;obtain ⟨x1,rfl,hm⟩:=hm
   refine .reg (eC 2 ((oo (pu 9 [Sl.v 1 s3,zI z1]) none fun v=>some (v,(hp 0 [])))) (call_eq h2) (eE)) ?_
   refine .ghs (fr 198 [(7,Sl.v 1 s1),(8,Sl.v 1 s2),(10,zI z0),(11,zI z1),(14,zI x1),(15,Sl.v 1 s4)]) (hp 0 []) (.k0 [] [] [7,8,10,11,14,15]) ?_
   refine .then ?_
   replace hm:=oo_inv hm;obtain ⟨v6,h3,hm⟩:=hm
   replace hm:=inv_vTup hm;obtain ⟨l2,rfl,hm⟩:=hm
   replace hm:=ll_uncons hm;obtain ⟨v7,l167_0,rfl,hm⟩:=hm
   replace hm:=ll_uncons hm;obtain ⟨v8,l167_1,rfl,hm⟩:=hm
   replace hm:=ll_end hm;obtain ⟨rfl,hm⟩:=hm
   replace hm:=inv_toSl hm;obtain ⟨s5,rfl,hm⟩:=hm
   replace hm:=inv_toI hm;obtain ⟨x2,rfl,hm⟩:=hm
   refine .reg (eC 4 ((oo (pu 9 [Sl.v 1 s1,(zI (wrapF .i64 (Int.add z0 z1)))]) none fun v=>some (v,(hp 0 [])))) (call_eq h3) (eE)) ?_
   refine .ghs (fr 198 [(7,Sl.v 1 s1),(8,Sl.v 1 s2),(14,zI x1),(15,Sl.v 1 s4),(16,Sl.v 1 s5),(17,zI x2)]) (hp 0 []) (.k0 [] [] [7,8,14,15,16,17]) ?_
   refine .then ?_
   refine .join (v:=v) (fun y:Sl×Sl×Bool=>((fr 198 [(7,(Sl.v 1 y.1)),(8,(Sl.v 1 y.2.1)),(100,(zB y.2.2))]),(hp 0 []))) (fun y=>m3_3 pu n y.1 y.2.1 y.2.2) ?_ ?_
   ·rintro ⟨s6, s7, b1⟩ hm
    unfold m3_3 at hm
    replace hm:=bb_cases hm;rcases hm with ⟨h4,hm⟩ | ⟨h4,hm⟩
    ·refine .ifT b1 (by kernel_rfl) h4 ?_
     refine .then (.rK ?_)
     refine .ghs (fr 198 [(6,zB false)]) (hp 0 []) (.k0 [] [] [6]) ?_
     refine .ret ?_
     exact fin_ret (zB false) (by kernel_rfl) (by kernel_rfl) hm
    ·refine .ifF b1 (by kernel_rfl) h4 ?_
     refine .skip ?_
     refine .ghs (fr 198 [(7,Sl.v 1 s6),(8,Sl.v 1 s7)]) (hp 0 []) (.k0 [] [] [7,8]) ?_
     refine .then ?_
     replace hm:=oo_inv hm;obtain ⟨v9,h5,hm⟩:=hm
     replace hm:=inv_vTup hm;obtain ⟨l3,rfl,hm⟩:=hm
     replace hm:=ll_uncons hm;obtain ⟨v10,l203_0,rfl,hm⟩:=hm
     replace hm:=ll_uncons hm;obtain ⟨v11,l203_1,rfl,hm⟩:=hm
     replace hm:=ll_end hm;obtain ⟨rfl,hm⟩:=hm
     replace hm:=inv_toI hm;obtain ⟨x3,rfl,hm⟩:=hm
     replace hm:=inv_toI hm;obtain ⟨x4,rfl,hm⟩:=hm
     refine .reg (eC 1 ((oo (pu 10 [Sl.v 1 s6]) none fun v=>some (v,(hp 0 [])))) (call_eq h5) (eE)) ?_
     refine .ghs (fr 198 [(7,Sl.v 1 s6),(8,Sl.v 1 s7),(9,zI x4),(18,zI x3)]) (hp 0 []) (.k0 [] [] [7,8,9,18]) ?_
     refine .then ?_
     replace hm:=oo_inv hm;obtain ⟨v12,h6,hm⟩:=hm
     replace hm:=inv_vTup hm;obtain ⟨l5,rfl,hm⟩:=hm
     replace hm:=ll_uncons hm;obtain ⟨v13,l223_0,rfl,hm⟩:=hm
     replace hm:=ll_uncons hm;obtain ⟨v14,l223_1,rfl,hm⟩:=hm
     replace hm:=ll_end hm;obtain ⟨rfl,hm⟩:=hm
     replace hm:=inv_toI hm;obtain ⟨x5,rfl,hm⟩:=hm
     replace hm:=inv_toI hm;obtain ⟨x6,rfl,hm⟩:=hm
     refine .reg (eC 1 ((oo (pu 10 [Sl.v 1 s7]) none fun v=>some (v,(hp 0 [])))) (call_eq h6) (eE)) ?_
     refine .ghs (fr 198 [(7,Sl.v 1 s6),(9,zI x4),(14,zI x6),(18,zI x3),(19,zI x5)]) (hp 0 []) (.k0 [] [] [7,9,14,18,19]) ?_
     refine .then ?_
     replace hm:=oo_inv hm;obtain ⟨v15,h7,hm⟩:=hm
     replace hm:=inv_vTup hm;obtain ⟨l10,rfl,hm⟩:=hm
     replace hm:=ll_uncons hm;obtain ⟨v16,l243_0,rfl,hm⟩:=hm
     replace hm:=ll_uncons hm;obtain ⟨v17,l243_1,rfl,hm⟩:=hm
     replace hm:=ll_end hm;obtain ⟨rfl,hm⟩:=hm
     replace hm:=inv_toSl hm;obtain ⟨s8,rfl,hm⟩:=hm
     replace hm:=inv_toI hm;obtain ⟨x7,rfl,hm⟩:=hm
     refine .reg (eC 1 ((oo (pu 11 [Sl.v 1 s6]) none fun v=>some (v,(hp 0 [])))) (call_eq h7) (eE)) ?_
     refine .ghs (fr 198 [(7,Sl.v 1 s6),(9,zI x4),(14,zI x6),(17,zI x7),(18,zI x3),(19,zI x5),(20,Sl.v 1 s8)]) (hp 0 []) (.k0 [] [] [7,9,14,17,18,19,20]) ?_
     refine .then ?_
     refine .join (v:=v) (fun y:Sl×Int×Sl×Bool=>((fr 198 [(7,(Sl.v 1 y.1)),(18,(zI y.2.1)),(20,(Sl.v 1 y.2.2.1)),(150,(zB y.2.2.2))]),(hp 0 []))) (fun y=>m3_4 pu n y.1 y.2.1 y.2.2.1 y.2.2.2) ?_ ?_
     ·rintro ⟨s9, z2, s10, b2⟩ hm
      unfold m3_4 at hm
      replace hm:=bb_cases hm;rcases hm with ⟨h8,hm⟩ | ⟨h8,hm⟩
      ·refine .ifT b2 (by kernel_rfl) h8 ?_
       refine .then (.rK ?_)
       refine .ghs (fr 198 [(6,zB false)]) (hp 0 []) (.k0 [] [] [6]) ?_
       refine .ret ?_
       exact fin_ret (zB false) (by kernel_rfl) (by kernel_rfl) hm
      ·refine .ifF b2 (by kernel_rfl) h8 ?_
       refine .skip ?_
       refine .ghs (fr 198 [(7,Sl.v 1 s9),(18,zI z2),(20,Sl.v 1 s10)]) (hp 0 []) (.k0 [] [] [7,18,20]) ?_
       refine .then (.rK ?_)
       refine .ghs (fr 198 [(12,Sl.v 1 s9),(18,zI z2),(20,Sl.v 1 s10)]) (hp 0 []) (.k0 [] [] [12,18,20]) ?_
       refine .join (v:=v) (fun y:Sl×Sl=>((fr 198 [(12,(Sl.v 1 y.1)),(20,(Sl.v 1 y.2))]),(hp 0 []))) (fun y=>m3_5 pu n y.1 y.2) ?_ ?_
       ·rintro ⟨s11, s12⟩ hm
        exact w3_5 pu n s11 s12 hm
       ·refine .then (.rK ?_)
        refine .ghs (fr 198 [(12,Sl.v 1 s9),(18,zI z2),(20,Sl.v 1 s10),(21,(zI (0:Int)))]) (hp 0 []) (.k0 [] [] [12,18,20,21]) ?_
        refine .block ?_
        refine .loopM (v:=v) (fun y:Sl×Int×Sl×Int=>((fr 198 [(12,(Sl.v 1 y.1)),(18,(zI y.2.1)),(20,(Sl.v 1 y.2.2.1)),(21,(zI y.2.2.2))]),(hp 0 []))) (fun w y=>l3_12 pu n w y.1 y.2.1 y.2.2.1 y.2.2.2) n ⟨(s9,z2,s10,(0:Int)),hm,(.k0 [] [] [12,18,20,21])⟩ (fun _=>rfl) ?_
        rintro w0 ⟨s13,z3,s14,z4⟩ hm
        replace hm:b3_12 pu n (l3_12 pu n w0) s13 z3 s14 z4 = some v:=hm
        unfold b3_12 at hm
        refine .then ?_
        refine .then (.rK ?_)
        refine .ghs (fr 198 [(12,Sl.v 1 s13),(18,zI z3),(20,Sl.v 1 s14),(21,zI z4),(154,(zB (ilt z4 z3)))]) (hp 0 []) (.k0 [] [] [12,18,20,21,154]) ?_
        replace hm:=bb_cases hm;rcases hm with ⟨h9,hm⟩ | ⟨h9,hm⟩
        ·refine .ifT (ilt z4 z3) (by kernel_rfl) h9 ?_
         refine .skip ?_
         refine .ghs (fr 198 [(12,Sl.v 1 s13),(18,zI z3),(20,Sl.v 1 s14),(21,zI z4)]) (hp 0 []) (.k0 [] [] [12,18,20,21]) ?_
         refine .then ?_
         refine .block ?_
         refine .then ?_
         refine .then ?_
         replace hm:=oo_inv hm;obtain ⟨v18,h10,hm⟩:=hm
         replace hm:=inv_vBool hm;obtain ⟨b106,rfl,hm⟩:=hm
         refine .reg (eC 1 ((oo (pu 12 [Sl.v 1 s13]) none fun v=>some (v,(hp 0 [])))) (call_eq h10) (eE)) ?_
         refine .ghs (fr 198 [(12,Sl.v 1 s13),(18,zI z3),(20,Sl.v 1 s14),(21,zI z4),(158,zB b106)]) (hp 0 []) (.k0 [] [] [12,18,20,21,158]) ?_
         replace hm:=bb_cases hm;rcases hm with ⟨h11,hm⟩ | ⟨h11,hm⟩
         ·refine .ifT b106 (by kernel_rfl) h11 ?_
          refine .then (.rK ?_)
          refine .ghs (fr 198 [(6,zB false)]) (hp 0 []) (.k0 [] [] [6]) ?_
          refine .ret ?_
          exact fin_ret (zB false) (by kernel_rfl) (by kernel_rfl) hm
         ·refine .ifF b106 (by kernel_rfl) h11 ?_
          refine .skip ?_
          refine .ghs (fr 198 [(12,Sl.v 1 s13),(18,zI z3),(20,Sl.v 1 s14),(21,zI z4)]) (hp 0 []) (.k0 [] [] [12,18,20,21]) ?_
          replace hm:=oo_inv hm;obtain ⟨v19,h12,hm⟩:=hm
          replace hm:=inv_toSl hm;obtain ⟨s15,rfl,hm⟩:=hm
          refine .reg (eC 1 ((oo (pu 7 [Sl.v 1 s13]) none fun v=>some (v,(hp 0 [])))) (call_eq h12) (eE)) ?_
          refine .ghs (fr 198 [(12,Sl.v 1 s15),(18,zI z3),(20,Sl.v 1 s14),(21,zI z4)]) (hp 0 []) (.k0 [] [] [12,18,20,21]) ?_
          refine .rK ?_
          exact ⟨(s15,z3,s14,(wrapF .i64 (Int.add z4 (1:Int)))),hm,(.k0 [] [] [12,18,20,21])⟩
        ·refine .ifF (ilt z4 z3) (by kernel_rfl) h9 ?_
         refine .exit ?_
         exact ⟨(s13,s14),hm,(.k0 [] [] [12,20])⟩
     ·replace hm := bb_cases hm; rcases hm with ⟨h13, hm⟩ | ⟨h13, hm⟩
      ·refine .reg (eC 1 (some ((zB (nt (ieq x4 (0 : Int)))), (hp 0 []))) (show _ = some ((zB true), _) from (by rw [h13])) (eE)) ?_
       exact ⟨(s6,x3,s8,true),hm,(.k0 [] [] [7,18,20,150])⟩
      ·replace hm := bb_cases hm; rcases hm with ⟨h14, hm⟩ | ⟨h14, hm⟩
       ·refine .reg (eC 1 (some ((zB (nt (ieq x4 (0 : Int)))), (hp 0 []))) (show _ = some ((zB false), _) from (by rw [h13])) (eC 2 (some ((zB (nt (ieq x6 (0 : Int)))), (hp 0 []))) (show _ = some ((zB true), _) from (by rw [h14])) (eE))) ?_
        exact ⟨(s6,x3,s8,true),hm,(.k0 [] [] [7,18,20,150])⟩
       ·replace hm := bb_cases hm; rcases hm with ⟨h15, hm⟩ | ⟨h15, hm⟩
        ·refine .reg (eC 1 (some ((zB (nt (ieq x4 (0 : Int)))), (hp 0 []))) (show _ = some ((zB false), _) from (by rw [h13])) (eC 2 (some ((zB (nt (ieq x6 (0 : Int)))), (hp 0 []))) (show _ = some ((zB false), _) from (by rw [h14])) (eC 3 (some ((zB (nt (ieq x7 (0 : Int)))), (hp 0 []))) (show _ = some ((zB true), _) from (by rw [h15])) (eE)))) ?_
         exact ⟨(s6,x3,s8,true),hm,(.k0 [] [] [7,18,20,150])⟩
        ·replace hm := bb_cases hm; rcases hm with ⟨h16, hm⟩ | ⟨h16, hm⟩
         ·refine .reg (eC 1 (some ((zB (nt (ieq x4 (0 : Int)))), (hp 0 []))) (show _ = some ((zB false), _) from (by rw [h13])) (eC 2 (some ((zB (nt (ieq x6 (0 : Int)))), (hp 0 []))) (show _ = some ((zB false), _) from (by rw [h14])) (eC 3 (some ((zB (nt (ieq x7 (0 : Int)))), (hp 0 []))) (show _ = some ((zB false), _) from (by rw [h15])) (eC 3 (some ((zB (ilt x3 (0 : Int))), (hp 0 []))) (show _ = some ((zB true), _) from (by rw [h16])) (eE))))) ?_
          exact ⟨(s6,x3,s8,true),hm,(.k0 [] [] [7,18,20,150])⟩
         ·replace hm := bb_cases hm; rcases hm with ⟨h17, hm⟩ | ⟨h17, hm⟩
          ·refine .reg (eC 1 (some ((zB (nt (ieq x4 (0 : Int)))), (hp 0 []))) (show _ = some ((zB false), _) from (by rw [h13])) (eC 2 (some ((zB (nt (ieq x6 (0 : Int)))), (hp 0 []))) (show _ = some ((zB false), _) from (by rw [h14])) (eC 3 (some ((zB (nt (ieq x7 (0 : Int)))), (hp 0 []))) (show _ = some ((zB false), _) from (by rw [h15])) (eC 3 (some ((zB (ilt x3 (0 : Int))), (hp 0 []))) (show _ = some ((zB false), _) from (by rw [h16])) (eC 3 (some ((zB (ilt (100 : Int) x3)), (hp 0 []))) (show _ = some ((zB true), _) from (by rw [h17])) (eE)))))) ?_
           exact ⟨(s6,x3,s8,true),hm,(.k0 [] [] [7,18,20,150])⟩
          ·replace hm := bb_cases hm; rcases hm with ⟨h18, hm⟩ | ⟨h18, hm⟩
           ·refine .reg (eN 9 (Fr.puts (fr 198 [(7, Sl.v 1 s6), (9, zI x4), (14, zI x6), (17, zI x7), (18, zI x3), (19, zI x5), (20, Sl.v 1 s8)]) [(116, zI x4), (117, zB false), (118, zB false), (119, zI x6), (120, zB false), (121, zB false), (122, zB false), (123, zI x7), (124, zB false)]) (hp 0 []) (eC 1 (some ((zB (nt (ieq x4 (0 : Int)))), (hp 0 []))) (show _ = some ((zB false), _) from (by rw [h13])) (eC 2 (some ((zB (nt (ieq x6 (0 : Int)))), (hp 0 []))) (show _ = some ((zB false), _) from (by rw [h14])) (eC 3 (some ((zB (nt (ieq x7 (0 : Int)))), (hp 0 []))) (show _ = some ((zB false), _) from (by rw [h15])) (by kernel_rfl)))) (eC 3 (some ((zB (ilt x3 (0 : Int))), (hp 0 []))) (show _ = some ((zB false), _) from (by rw [h16])) (eC 3 (some ((zB (ilt (100 : Int) x3)), (hp 0 []))) (show _ = some ((zB false), _) from (by rw [h17])) (eC 4 (some ((zB (ieq (Int.ofNat (Sl.n s8)) (0 : Int))), (hp 0 []))) (show _ = some ((zB true), _) from (by rw [h18])) (eE))))) ?_
            exact ⟨(s6,x3,s8,true),hm,(.k0 [] [] [7,18,20,150])⟩
           ·replace hm := bb_cases hm; rcases hm with ⟨h19, hm⟩ | ⟨h19, hm⟩
            ·refine .reg (eN 9 (Fr.puts (fr 198 [(7, Sl.v 1 s6), (9, zI x4), (14, zI x6), (17, zI x7), (18, zI x3), (19, zI x5), (20, Sl.v 1 s8)]) [(116, zI x4), (117, zB false), (118, zB false), (119, zI x6), (120, zB false), (121, zB false), (122, zB false), (123, zI x7), (124, zB false)]) (hp 0 []) (eC 1 (some ((zB (nt (ieq x4 (0 : Int)))), (hp 0 []))) (show _ = some ((zB false), _) from (by rw [h13])) (eC 2 (some ((zB (nt (ieq x6 (0 : Int)))), (hp 0 []))) (show _ = some ((zB false), _) from (by rw [h14])) (eC 3 (some ((zB (nt (ieq x7 (0 : Int)))), (hp 0 []))) (show _ = some ((zB false), _) from (by rw [h15])) (by kernel_rfl)))) (eC 3 (some ((zB (ilt x3 (0 : Int))), (hp 0 []))) (show _ = some ((zB false), _) from (by rw [h16])) (eC 3 (some ((zB (ilt (100 : Int) x3)), (hp 0 []))) (show _ = some ((zB false), _) from (by rw [h17])) (eC 4 (some ((zB (ieq (Int.ofNat (Sl.n s8)) (0 : Int))), (hp 0 []))) (show _ = some ((zB false), _) from (by rw [h18])) (eC 4 (some ((zB (ilt (21 : Int) (Int.ofNat (Sl.n s8)))), (hp 0 []))) (show _ = some ((zB true), _) from (by rw [h19])) (eE)))))) ?_
             exact ⟨(s6,x3,s8,true),hm,(.k0 [] [] [7,18,20,150])⟩
            ·refine .reg (eN 9 (Fr.puts (fr 198 [(7, Sl.v 1 s6), (9, zI x4), (14, zI x6), (17, zI x7), (18, zI x3), (19, zI x5), (20, Sl.v 1 s8)]) [(116, zI x4), (117, zB false), (118, zB false), (119, zI x6), (120, zB false), (121, zB false), (122, zB false), (123, zI x7), (124, zB false)]) (hp 0 []) (eC 1 (some ((zB (nt (ieq x4 (0 : Int)))), (hp 0 []))) (show _ = some ((zB false), _) from (by rw [h13])) (eC 2 (some ((zB (nt (ieq x6 (0 : Int)))), (hp 0 []))) (show _ = some ((zB false), _) from (by rw [h14])) (eC 3 (some ((zB (nt (ieq x7 (0 : Int)))), (hp 0 []))) (show _ = some ((zB false), _) from (by rw [h15])) (by kernel_rfl)))) (eC 3 (some ((zB (ilt x3 (0 : Int))), (hp 0 []))) (show _ = some ((zB false), _) from (by rw [h16])) (eC 3 (some ((zB (ilt (100 : Int) x3)), (hp 0 []))) (show _ = some ((zB false), _) from (by rw [h17])) (eC 4 (some ((zB (ieq (Int.ofNat (Sl.n s8)) (0 : Int))), (hp 0 []))) (show _ = some ((zB false), _) from (by rw [h18])) (eC 4 (some ((zB (ilt (21 : Int) (Int.ofNat (Sl.n s8)))), (hp 0 []))) (show _ = some ((zB false), _) from (by rw [h19])) (eE)))))) ?_
             exact ⟨(s6,x3,s8,(nt (ieq x5 (bb (ilt (0:Int) (wrapF .i64 (Int.sub x3 (1:Int)))) (wrapF .i64 (Int.sub x3 (1:Int))) (0:Int))))),hm,(.k0 [] [] [7,18,20,150])⟩
   ·replace hm := bb_cases hm; rcases hm with ⟨h20, hm⟩ | ⟨h20, hm⟩
    ·refine .reg (eC 1 (some ((zB (nt (ieq x1 (0 : Int)))), (hp 0 []))) (show _ = some ((zB true), _) from (by rw [h20])) (eE)) ?_
     exact ⟨(s1,s2,true),hm,(.k0 [] [] [7,8,100])⟩
    ·replace hm := bb_cases hm; rcases hm with ⟨h21, hm⟩ | ⟨h21, hm⟩
     ·refine .reg (eC 1 (some ((zB (nt (ieq x1 (0 : Int)))), (hp 0 []))) (show _ = some ((zB false), _) from (by rw [h20])) (eC 2 (some ((zB (nt (ieq x2 (0 : Int)))), (hp 0 []))) (show _ = some ((zB true), _) from (by rw [h21])) (eE))) ?_
      exact ⟨(s1,s2,true),hm,(.k0 [] [] [7,8,100])⟩
     ·replace hm := oo_inv hm; obtain ⟨v20, h22, hm⟩ := hm
      replace hm:=inv_vBool hm;obtain ⟨b107,rfl,hm⟩:=hm
      refine .reg (eC 1 (some ((zB (nt (ieq x1 (0:Int)))),(hp 0 []))) (show _ = some ((zB false),_) from (by rw [h20])) (eC 2 (some ((zB (nt (ieq x2 (0:Int)))),(hp 0 []))) (show _ = some ((zB false),_) from (by rw [h21])) (eC 4 ((oo (pu 6 [Sl.v 1 s4,Sl.v 1 s5]) none fun v=>some (v,(hp 0 [])))) (call_eq h22) (eE)))) ?_
      exact ⟨(s1,s2,(nt b107)),hm,(.k0 [] [] [7,8,100])⟩
 ·replace hm := bb_cases hm; rcases hm with ⟨h23, hm⟩ | ⟨h23, hm⟩
  ·refine .reg (eC 1 (some ((zB (nt (ieq x0 (0 : Int)))), (hp 0 []))) (show _ = some ((zB true), _) from (by rw [h23])) (eE)) ?_
   exact ⟨(s93,s94,z95,z96,s0,true),hm,(.k0 [] [] [7,8,10,11,13,74])⟩
  ·replace hm := oo_inv hm; obtain ⟨v21, h24, hm⟩ := hm
   replace hm:=inv_vBool hm;obtain ⟨b108,rfl,hm⟩:=hm
   refine .reg (eC 1 (some ((zB (nt (ieq x0 (0:Int)))),(hp 0 []))) (show _ = some ((zB false),_) from (by rw [h23])) (eC 3 ((oo (pu 6 [Sl.v 1 s0,Sl.v 1 s97]) none fun v=>some (v,(hp 0 [])))) (call_eq h24) (eE))) ?_
   exact ⟨(s93,s94,z95,z96,s0,(nt b108)),hm,(.k0 [] [] [7,8,10,11,13,74])⟩
theorem r3 {call:CallF} (pu:PureF) (n:Nat) (hcall:call = callP tabs isP pu (inl pu)) {args:LV} {v:Value} (hm:m3 pu n args = some v) (_:∀ x ∈ args,closed2 x = true):args.length≤198∧Run tt call 0 c3_128 (Fr.made 198 args) (pureHeap tabs) (Fin tt 0 [.tmp 6] v):=by
 subst hcall
 unfold m3 at hm
 replace hm:=ll_uncons hm;obtain ⟨a0,args_0,rfl,hm⟩:=hm
 replace hm:=ll_uncons hm;obtain ⟨a1,args_1,rfl,hm⟩:=hm
 replace hm:=ll_uncons hm;obtain ⟨a2,args_2,rfl,hm⟩:=hm
 replace hm:=ll_end hm;obtain ⟨rfl,hm⟩:=hm
 replace hm:=inv_toSl hm;obtain ⟨s1,rfl,hm⟩:=hm
 replace hm:=inv_toI hm;obtain ⟨x3,rfl,hm⟩:=hm
 replace hm:=inv_toI hm;obtain ⟨x5,rfl,hm⟩:=hm
 unfold m3_ at hm
 refine ⟨by simp,?_⟩
 refine .same (F':=(fr 198 [(0,Sl.v 1 s1),(1,.int .u16 x3),(2,.int .u16 x5)])) (H':=(hp 0 [])) (by kernel_rfl) (by kernel_rfl) ?_
 refine .then (.rK ?_)
 refine .ghs (fr 198 [(0,Sl.v 1 s1),(1,.int .u16 x3),(2,.int .u16 x5)]) (hp 0 []) (.k0 [] [] [0,1,2]) ?_
 refine .then ?_
 replace hm:=oo_inv hm;obtain ⟨v11,h12,hm⟩:=hm
 replace hm:=inv_toSl hm;obtain ⟨s13,rfl,hm⟩:=hm
 refine .reg (eC 1 ((oo (pu 4 [Sl.v 1 s1,(zI (21:Int))]) none fun v=>some (v,(hp 0 [])))) (call_eq h12) (eE)) ?_
 refine .ghs (fr 198 [(1,.int .u16 x3),(2,.int .u16 x5),(7,Sl.v 1 s13)]) (hp 0 []) (.k0 [] [] [1,2,7]) ?_
 refine .then ?_
 replace hm:=oo_inv hm;obtain ⟨v25,h26,hm⟩:=hm
 replace hm:=inv_vTup hm;obtain ⟨l27,rfl,hm⟩:=hm
 replace hm:=ll_uncons hm;obtain ⟨v29,l27_0,rfl,hm⟩:=hm
 replace hm:=ll_uncons hm;obtain ⟨v30,l27_1,rfl,hm⟩:=hm
 replace hm:=ll_end hm;obtain ⟨rfl,hm⟩:=hm
 replace hm:=inv_toSl hm;obtain ⟨s31,rfl,hm⟩:=hm
 replace hm:=inv_toI hm;obtain ⟨x33,rfl,hm⟩:=hm
 refine .reg (eC 1 ((oo (pu 5 [Sl.v 1 s13]) none fun v=>some (v,(hp 0 [])))) (call_eq h26) (eE)) ?_
 refine .ghs (fr 198 [(1,.int .u16 x3),(2,.int .u16 x5),(7,Sl.v 1 s13),(8,Sl.v 1 s31),(9,zI x33)]) (hp 0 []) (.k0 [] [] [1,2,7,8,9]) ?_
 refine .then ?_
 refine .join (v:=v) (fun y:Int×Int×Sl×Sl×Bool=>((fr 198 [(1,(.int .u16 y.1)),(2,(.int .u16 y.2.1)),(7,(Sl.v 1 y.2.2.1)),(8,(Sl.v 1 y.2.2.2.1)),(47,(zB y.2.2.2.2))]),(hp 0 []))) (fun y=>m3_0 pu n y.1 y.2.1 y.2.2.1 y.2.2.2.1 y.2.2.2.2) ?_ ?_
 ·rintro ⟨z71, z72, s73, s74, b75⟩ hm
  unfold m3_0 at hm
  replace hm:=bb_cases hm;rcases hm with ⟨h76,hm⟩ | ⟨h76,hm⟩
  ·refine .ifT b75 (by kernel_rfl) h76 ?_
   refine .then (.rK ?_)
   refine .ghs (fr 198 [(6,zB false)]) (hp 0 []) (.k0 [] [] [6]) ?_
   refine .ret ?_
   exact fin_ret (zB false) (by kernel_rfl) (by kernel_rfl) hm
  ·refine .ifF b75 (by kernel_rfl) h76 ?_
   refine .skip ?_
   refine .ghs (fr 198 [(1,.int .u16 z71),(2,.int .u16 z72),(7,Sl.v 1 s73),(8,Sl.v 1 s74)]) (hp 0 []) (.k0 [] [] [1,2,7,8]) ?_
   refine .then (.rK ?_)
   refine .ghs (fr 198 [(7,Sl.v 1 s73),(8,Sl.v 1 s74),(10,(zI (Int.tmod (wrapF .i64 z71) (300:Int)))),(11,(zI (Int.tmod (wrapF .i64 z72) (300:Int))))]) (hp 0 []) (.k0 [] [] [7,8,10,11]) ?_
   refine .then (.rK ?_)
   refine .ghs (fr 198 [(7,Sl.v 1 s73),(8,Sl.v 1 s74),(10,(zI (Int.tmod (wrapF .i64 z71) (300:Int)))),(11,(zI (Int.tmod (wrapF .i64 z72) (300:Int)))),(12,Sl.v 1 s73)]) (hp 0 []) (.k0 [] [] [7,8,10,11,12]) ?_
   refine .join (v:=v) (fun y:Sl×Sl×Int×Int×Sl=>((fr 198 [(7,(Sl.v 1 y.1)),(8,(Sl.v 1 y.2.1)),(10,(zI y.2.2.1)),(11,(zI y.2.2.2.1)),(12,(Sl.v 1 y.2.2.2.2))]),(hp 0 []))) (fun y=>m3_1 pu n y.1 y.2.1 y.2.2.1 y.2.2.2.1 y.2.2.2.2) ?_ ?_
   ·rintro ⟨s93, s94, z95, z96, s97⟩ hm
    exact w3_1 pu n s93 s94 z95 z96 s97 hm
   ·refine .then (.rK ?_)
    refine .ghs (fr 198 [(7,Sl.v 1 s73),(8,Sl.v 1 s74),(10,(zI (Int.tmod (wrapF .i64 z71) (300:Int)))),(11,(zI (Int.tmod (wrapF .i64 z72) (300:Int)))),(12,Sl.v 1 s73),(55,(zI (Int.tmod (wrapF .i64 z71) (300:Int)))),(56,(zI (0:Int)))]) (hp 0 []) (.k0 [] [] [7,8,10,11,12,55,56]) ?_
    refine .block ?_
    refine .loopM (v:=v) (fun y:Sl×Sl×Int×Int×Sl×Int×Int=>((fr 198 [(7,(Sl.v 1 y.1)),(8,(Sl.v 1 y.2.1)),(10,(zI y.2.2.1)),(11,(zI y.2.2.2.1)),(12,(Sl.v 1 y.2.2.2.2.1)),(55,(zI y.2.2.2.2.2.1)),(56,(zI y.2.2.2.2.2.2))]),(hp 0 []))) (fun w y=>l3_13 pu n w y.1 y.2.1 y.2.2.1 y.2.2.2.1 y.2.2.2.2.1 y.2.2.2.2.2.1 y.2.2.2.2.2.2) n ⟨(s73,s74,(Int.tmod (wrapF .i64 z71) (300:Int)),(Int.tmod (wrapF .i64 z72) (300:Int)),s73,(Int.tmod (wrapF .i64 z71) (300:Int)),(0:Int)),hm,(.k0 [] [] [7,8,10,11,12,55,56])⟩ (fun _=>rfl) ?_
    rintro w0 ⟨s0,s2,z0,z1,s3,z2,z3⟩ hm
    replace hm:b3_13 pu n (l3_13 pu n w0) s0 s2 z0 z1 s3 z2 z3 = some v:=hm
    unfold b3_13 at hm
    refine .then (.rK ?_)
    refine .ghs (fr 198 [(7,Sl.v 1 s0),(8,Sl.v 1 s2),(10,zI z0),(11,zI z1),(12,Sl.v 1 s3),(55,zI z2),(56,zI z3),(57,(zB (ilt z3 z2)))]) (hp 0 []) (.k0 [] [] [7,8,10,11,12,55,56,57]) ?_
    refine .then ?_
    replace hm:=bb_cases hm;rcases hm with ⟨h0,hm⟩ | ⟨h0,hm⟩
    ·refine .ifT (ilt z3 z2) (by kernel_rfl) h0 ?_
     refine .skip ?_
     refine .ghs (fr 198 [(7,Sl.v 1 s0),(8,Sl.v 1 s2),(10,zI z0),(11,zI z1),(12,Sl.v 1 s3),(55,zI z2),(56,zI z3)]) (hp 0 []) (.k0 [] [] [7,8,10,11,12,55,56]) ?_
     refine .then ?_
     refine .block ?_
     replace hm:=oo_inv hm;obtain ⟨v0,h1,hm⟩:=hm
     replace hm:=inv_toSl hm;obtain ⟨s4,rfl,hm⟩:=hm
     refine .reg (eC 1 ((oo (pu 7 [Sl.v 1 s3]) none fun v=>some (v,(hp 0 [])))) (call_eq h1) (eE)) ?_
     refine .ghs (fr 198 [(7,Sl.v 1 s0),(8,Sl.v 1 s2),(10,zI z0),(11,zI z1),(12,Sl.v 1 s4),(55,zI z2),(56,zI z3)]) (hp 0 []) (.k0 [] [] [7,8,10,11,12,55,56]) ?_
     refine .rK ?_
     exact ⟨(s0,s2,z0,z1,s4,z2,(wrapF .i64 (Int.add z3 (1:Int)))),hm,(.k0 [] [] [7,8,10,11,12,55,56])⟩
    ·refine .ifF (ilt z3 z2) (by kernel_rfl) h0 ?_
     refine .exit ?_
     exact ⟨(s0,s2,z0,z1,s3),hm,(.k0 [] [] [7,8,10,11,12])⟩
 ·replace hm := bb_cases hm; rcases hm with ⟨h2, hm⟩ | ⟨h2, hm⟩
  ·refine .reg (eC 1 (some ((zB (nt (ieq x33 (0 : Int)))), (hp 0 []))) (show _ = some ((zB true), _) from (by rw [h2])) (eE)) ?_
   exact ⟨(x3,x5,s13,s31,true),hm,(.k0 [] [] [1,2,7,8,47])⟩
  ·replace hm := oo_inv hm; obtain ⟨v1, h3, hm⟩ := hm
   replace hm:=inv_toSl hm;obtain ⟨s5,rfl,hm⟩:=hm
   replace hm:=oo_inv hm;obtain ⟨v2,h4,hm⟩:=hm
   replace hm:=inv_vBool hm;obtain ⟨b0,rfl,hm⟩:=hm
   replace hm:=bb_cases hm;rcases hm with ⟨h5,hm⟩ | ⟨h5,hm⟩
   ·refine .reg (eC 1 (some ((zB (nt (ieq x33 (0 : Int)))), (hp 0 []))) (show _ = some ((zB false), _) from (by rw [h2])) (eC 3 ((oo (pu 7 [Sl.v 1 s13]) none fun v => some (v, (hp 0 [])))) (call_eq h3) (eD ((oo (pu 6 [Sl.v 1 s31, Sl.v 1 s5]) none fun v => some (v, (hp 0 [])))) (call_eq h4) (eD (some ((zB (nt b0)), (hp 0 []))) (show _ = some ((zB true), _) from (by rw [h5])) (eE))))) ?_
    exact ⟨(x3,x5,s13,s31,true),hm,(.k0 [] [] [1,2,7,8,47])⟩
   ·replace hm := oo_inv hm; obtain ⟨v3, h6, hm⟩ := hm
    replace hm:=inv_toI hm;obtain ⟨x0,rfl,hm⟩:=hm
    replace hm:=oo_inv hm;obtain ⟨v4,h7,hm⟩:=hm
    replace hm:=inv_toI hm;obtain ⟨x1,rfl,hm⟩:=hm
    refine .reg (eN 7 (Fr.puts (fr 198 [(1,.int .u16 x3),(2,.int .u16 x5),(7,Sl.v 1 s13),(8,Sl.v 1 s31),(9,zI x33)]) [(32,zI x33),(33,zB false),(34,zB false),(35,Sl.v 1 s31),(36,Sl.v 1 s13),(37,Sl.v 1 s5),(38,zB b0)]) (hp 0 []) (eC 1 (some ((zB (nt (ieq x33 (0:Int)))),(hp 0 []))) (show _ = some ((zB false),_) from (by rw [h2])) (eC 3 ((oo (pu 7 [Sl.v 1 s13]) none fun v=>some (v,(hp 0 [])))) (call_eq h3) (eD ((oo (pu 6 [Sl.v 1 s31,Sl.v 1 s5]) none fun v=>some (v,(hp 0 [])))) (call_eq h4) (by kernel_rfl)))) (eD (some ((zB (nt b0)),(hp 0 []))) (show _ = some ((zB false),_) from (by rw [h5])) (eC 3 ((oo (pu 8 [Sl.v 1 s31]) none fun v=>some (v,(hp 0 [])))) (call_eq h6) (eC 1 ((oo (pu 8 [Sl.v 1 s13]) none fun v=>some (v,(hp 0 [])))) (call_eq h7) (eE))))) ?_
    exact ⟨(x3,x5,s13,s31,(nt (ieq x0 x1))),hm,(.k0 [] [] [1,2,7,8,47])⟩
def m4_1 (pu:PureF) (n n0 c0:Nat) (q0:LV):OV:=
 (oo (mapO (toI .i64) q0) none fun z0=>(bb (wholeC 0 1 (len q0) n0) (bb (allL closed1 (mapL I64 (srtZ z0))) (bb (orr (Nat.ble 2 c0) (nilL (mapL I64 (srtZ z0)))) (bb (allL closed1 (mapL I64 (srtZ z0))) (oo (pu 10170 [(.slice (some ⟨0,0,some 1⟩) n0 c0),(.agg ⟨(mapL I64 (srtZ z0))⟩)]) none fun v0=>(oo (vTup v0) none fun l0=>(ll l0 none fun v1 l0=>(ll l0 none fun v2 l0=>(ll l0 (bb (isNoV v1) (oo (vAgg v2) none fun q1=>(bb (allL closed1 q1) (bb (allL closed1 q1) (bb (an (Nat.ble (0 + n0 * 1) (len q1)) (allL closed1 (takeL (n0 * 1) (dropL 0 q1)))) (some (Sl.v 1 (Sl.mk n0 0 (takeL (n0 * 1) (dropL 0 q1))))) none) none) none)) none) fun _ _=>none))))) none) none) none) none))
def m4_0 (pu:PureF) (n n0 c0:Nat) (q0:LV):OV:=
 (bb (allL closed1 q0) (bb (ieq (Int.ofNat n0) (0:Int)) (m4_1 pu n 1 3 ([(.int .i64 (1:Int))]:LV)) (m4_1 pu n n0 c0 q0)) none)
def b4_2 (pu:PureF) (n:Nat) (ih0:Nat→Nat→Int→Sl→Int→Int→LV→OV) (n0 c0:Nat) (z0:Int) (s0:Sl) (z1 z2:Int) (q0:LV):OV:=
 (bb (allL closed1 q0) (bb (ilt z2 z1) (oo (toN z2) none fun k1=>(bb (an (Nat.blt k1 (Sl.n s0)) true) (oo (nthL (Sl.cs s0) (k1 * 1)) none fun v0=>(oo (toI .u8 v0) none fun x0=>(bb (ieq z0 (0:Int)) (m4_0 pu n n0 c0 q0) (bb (nt (ieq z0 (0:Int))) (bb (growC 1 8 n0 c0 1 q0) (bb (allL closed1 (appL (dropL 0 q0) [(.int .i64 (wrapF .i64 (Int.add (1:Int) (Int.tmod (wrapF .i64 x0) z0))))])) (ih0 (n0 + 1) (2 * (n0 + 1) + bb false 1 0) (wrapF .i64 (Int.sub z0 (wrapF .i64 (Int.add (1:Int) (Int.tmod (wrapF .i64 x0) z0))))) s0 z1 (wrapF .i64 (Int.add (Int.ofNat k1) (1:Int))) (appL (dropL 0 q0) [(.int .i64 (wrapF .i64 (Int.add (1:Int) (Int.tmod (wrapF .i64 x0) z0))))])) none) none) none)))) none)) (m4_0 pu n n0 c0 q0)) none)
def l4_2 (pu:PureF) (n w:Nat):Nat→Nat→Int→Sl→Int→Int→LV→OV:=
 Nat.rec (motive:=fun _=>Nat→Nat→Int→Sl→Int→Int→LV→OV) (fun _ _ _ _ _ _ _=>none) (fun _ ih0=>b4_2 pu n ih0) w
def m4_ (pu:PureF) (n:Nat) (s0:Sl) (x0:Int):OV:=
 (l4_2 pu n n 0 0 x0 s0 (Int.ofNat (Sl.n s0)) (0:Int) ([]:LV))
def m4 (pu:PureF) (n:Nat) (args:LV):OV:=
 (ll args none fun a0 args=>(ll args none fun a1 args=>(ll args (oo (toSl 1 a0) none fun s0=>(oo (toI .i64 a1) none fun x0=>(m4_ pu n s0 x0))) fun _ _=>none)))
theorem w4_1 (pu:PureF) (n n0 c0:Nat) (q0:LV) {v:Value} (hm:m4_1 pu n n0 c0 q0 = some v):Run tt (callP tabs isP pu (inl pu)) 0 c4_34 (fr 42 [(5,sc 0 0 1 n0 c0)]) (hp 1 [oC q0]) (Fin tt 0 [.tmp 4] v):=by
 unfold m4_1 at hm
 refine .then ?_
 replace hm:=oo_inv hm;obtain ⟨z0,h0,hm⟩:=hm
 replace hm:=bb_inv hm;obtain ⟨h1,hm⟩:=hm
 refine .reg (eC 1 (sortF [sc 0 0 1 n0 c0] (hp 1 [oC q0])) (sortF_eq (x:=(sc 0 0 1 n0 c0)) (H:=(hp 1 [oC q0])) (id:=0) (ln:=n0) (c2:=c0) (xs:=q0) (anc:=[]) (by kernel_rfl) (by kernel_rfl) h0 h1) (eE)) ?_
 replace hm:=bb_inv hm;obtain ⟨h2,hm⟩:=hm
 refine .ghs (fr 42 [(5,sc 0 0 1 n0 c0)]) (hp 1 [(oC (mapL I64 (srtZ z0)))]) (.k [0] [] [.tmp 5 false] [5] ⟨trF h2,trivial⟩) ?_
 refine .then ?_
 replace hm:=bb_inv hm;obtain ⟨h3,hm⟩:=hm
 replace hm:=bb_inv hm;obtain ⟨h4,hm⟩:=hm
 replace hm:=oo_inv hm;obtain ⟨v0,h5,hm⟩:=hm
 replace hm:=inv_vTup hm;obtain ⟨l0,rfl,hm⟩:=hm
 replace hm:=ll_uncons hm;obtain ⟨v1,l758_0,rfl,hm⟩:=hm
 replace hm:=ll_uncons hm;obtain ⟨v2,l758_1,rfl,hm⟩:=hm
 replace hm:=ll_end hm;obtain ⟨rfl,hm⟩:=hm
 replace hm:=bb_inv hm;obtain ⟨h6,hm⟩:=hm
 obtain rfl:=isNoV_ok h6
 replace hm:=inv_vAgg hm;obtain ⟨q1,rfl,hm⟩:=hm
 replace hm:=bb_inv hm;obtain ⟨h7,hm⟩:=hm
 refine .reg (eC 1 (objG tabs [[none]] 1 [.tmp 0 false] [false] (pu 10170) [sc 0 0 1 n0 c0] (hp 1 [(oC (mapL I64 (srtZ z0)))])) (objG_eq (as:=[sc 0 0 1 n0 c0]) (H1:=(hp 1 [(oC (mapL I64 (srtZ z0)))])) (gvAL_c (gvA_1 gv_n) gvAL_n) (objF_eq (H2:=(hp 1 [oC q1])) (v:=(.tuple ⟨[]⟩)) (v':=(.tuple ⟨[]⟩)) [some 0] [(false,some 0)] [(oC (mapL I64 (srtZ z0)))] [sc 0 0 1 n0 c0] [(.agg ⟨q1⟩)] [oC q1] [some 0] [(false,oC q1)] [oC q1] (trE (by kernel_rfl) (rootL h3 rfl)) (mapO_c (nO_list (anc:=[]) h4) mapO_n) (Eq.trans (by kernel_rfl) h5) (mapO_c rfl mapO_n) (mapO_c (bO_list h7) mapO_n))) (eE)) ?_
 replace hm:=bb_inv hm;obtain ⟨h8,hm⟩:=hm
 refine .ghs (fr 42 [(5,sc 0 0 1 n0 c0)]) (hp 1 [oC q1]) (.k [0] [] [.tmp 5 false] [5] ⟨trF h8,trivial⟩) ?_
 refine .then (.rK ?_)
 refine .ghs (fr 42 [(4,sc 0 0 1 n0 c0)]) (hp 1 [oC q1]) (.k [0] [] [.tmp 4 false] [4] ⟨trF h8,trivial⟩) ?_
 replace hm:=bb_inv hm;obtain ⟨h9,hm⟩:=hm
 refine .ghs (Fr.puts (fr 42 [(4,sc 0 0 1 n0 c0)]) [(4,(Sl.v 1 (Sl.mk n0 0 (takeL (n0 * 1) (dropL 0 q1)))))]) (hp 1 [.dead]) (.freezeC 0 4 1 (an (Nat.ble (0 + n0 * 1) (len q1)) (allL closed1 (takeL (n0 * 1) (dropL 0 q1)))) (F1:=(Fr.puts (fr 42 [(4,sc 0 0 1 n0 c0)]) [(4,(Sl.v 1 (Sl.mk n0 0 (takeL (n0 * 1) (dropL 0 q1)))))])) (H1:=(hp 1 [.dead])) (by kernel_rfl) (by kernel_rfl) h9 (GhS.id _ _)) ?_
 refine .ret ?_
 exact fin_ret (Sl.v 1 (Sl.mk n0 0 (takeL (n0 * 1) (dropL 0 q1)))) (by kernel_rfl) (by kernel_rfl) hm
theorem w4_0 (pu:PureF) (n n0 c0:Nat) (q0:LV) {v:Value} (hm:m4_0 pu n n0 c0 q0 = some v):Run tt (callP tabs isP pu (inl pu)) 0 c4_35 (fr 42 [(5,sc 0 0 1 n0 c0)]) (hp 1 [oC q0]) (Fin tt 0 [.tmp 4] v):=by
 unfold m4_0 at hm
 refine .join (v:=v) (fun y:Nat×Nat×LV=>((fr 42 [(5,(sc 0 0 1 y.1 y.2.1))]),(hp 1 [(oC y.2.2)]))) (fun y=>m4_1 pu n y.1 y.2.1 y.2.2) ?_ ?_
 ·rintro ⟨n1, c1, q1⟩ hm
  exact w4_1 pu n n1 c1 q1 hm
 ·refine .then (.rK ?_)
  replace hm:=bb_inv hm;obtain ⟨h0,hm⟩:=hm
  refine .ghs (fr 42 [(5,sc 0 0 1 n0 c0),(34,(zB (ieq (Int.ofNat n0) (0:Int))))]) (hp 1 [oC q0]) (.k [0] [] [.tmp 5 false] [5,34] ⟨trF h0,trivial⟩) ?_
  replace hm:=bb_cases hm;rcases hm with ⟨h1,hm⟩ | ⟨h1,hm⟩
  ·refine .ifT (ieq (Int.ofNat n0) (0 : Int)) (by kernel_rfl) h1 ?_
   refine .reg (eC 1 (identF [sc 1 0 1 1 3] (hp 2 [oC q0,(oC [(zI (1:Int))])])) rfl (eE)) ?_
   exact ⟨(1,3,([(zI (1:Int))]:LV)),hm,(.k0 [] [.tmp 5 false] [5])⟩
  ·refine .ifF (ieq (Int.ofNat n0) (0 : Int)) (by kernel_rfl) h1 ?_
   refine .skip ?_
   exact ⟨(n0,c0,q0),hm,(.k [0] [] [.tmp 5 false] [5] ⟨trF h0,trivial⟩)⟩
theorem r4 {call:CallF} (pu:PureF) (n:Nat) (hcall:call = callP tabs isP pu (inl pu)) {args:LV} {v:Value} (hm:m4 pu n args = some v) (_:∀ x ∈ args,closed2 x = true):args.length≤42∧Run tt call 0 c4_39 (Fr.made 42 args) (pureHeap tabs) (Fin tt 0 [.tmp 4] v):=by
 subst hcall
 unfold m4 at hm
 replace hm:=ll_uncons hm;obtain ⟨a0,args_0,rfl,hm⟩:=hm
 replace hm:=ll_uncons hm;obtain ⟨a1,args_1,rfl,hm⟩:=hm
 replace hm:=ll_end hm;obtain ⟨rfl,hm⟩:=hm
 replace hm:=inv_toSl hm;obtain ⟨s0,rfl,hm⟩:=hm
 replace hm:=inv_toI hm;obtain ⟨x0,rfl,hm⟩:=hm
 unfold m4_ at hm
 refine ⟨by simp,?_⟩
 refine .same (F':=(fr 42 [(0,Sl.v 1 s0),(1,zI x0)])) (H':=(hp 0 [])) (by kernel_rfl) (by kernel_rfl) ?_
 refine .then (.rK ?_)
 refine .ghs (fr 42 [(0,Sl.v 1 s0),(1,zI x0)]) (hp 0 []) (.k0 [] [] [0,1]) ?_
 refine .then (.rK ?_)
 refine .ghs (fr 42 [(0,Sl.v 1 s0),(1,zI x0),(5,(.slice none 0 0))]) (hp 0 []) (.k0 [] [] [0,1,5]) ?_
 refine .then (.rK ?_)
 refine .ghs (fr 42 [(0,Sl.v 1 s0),(5,(.slice none 0 0)),(6,zI x0)]) (hp 0 []) (.k0 [] [] [0,5,6]) ?_
 refine .join (v:=v) (fun y:Nat×Nat×LV=>((fr 42 [(5,(sc 0 0 1 y.1 y.2.1))]),(hp 1 [(oC y.2.2)]))) (fun y=>m4_0 pu n y.1 y.2.1 y.2.2) ?_ ?_
 ·rintro ⟨n0, c0, q0⟩ hm
  exact w4_0 pu n n0 c0 q0 hm
 ·refine .then (.rK ?_)
  refine .ghs (fr 42 [(5,(.slice none 0 0)),(6,zI x0),(11,Sl.v 1 s0),(12,(zI (Int.ofNat (Sl.n s0)))),(13,(zI (0:Int)))]) (hp 0 []) (.k0 [] [] [5,6,11,12,13]) ?_
  refine .block ?_
  refine .loopM (v:=v) (fun y:Nat×Nat×Int×Sl×Int×Int×LV=>((fr 42 [(5,(sc 0 0 1 y.1 y.2.1)),(6,(zI y.2.2.1)),(11,(Sl.v 1 y.2.2.2.1)),(12,(zI y.2.2.2.2.1)),(13,(zI y.2.2.2.2.2.1))]),(hp 1 [(oC y.2.2.2.2.2.2)]))) (fun w y=>l4_2 pu n w y.1 y.2.1 y.2.2.1 y.2.2.2.1 y.2.2.2.2.1 y.2.2.2.2.2.1 y.2.2.2.2.2.2) n ⟨(0,0,x0,s0,(Int.ofNat (Sl.n s0)),(0:Int),([]:LV)),hm,(.thaw 5 1 (by kernel_rfl) (.k0 [] [.tmp 5 false] [5,6,11,12,13]))⟩ (fun _=>rfl) ?_
  rintro w0 ⟨n1,c1,z0,s1,z1,z2,q1⟩ hm
  replace hm:b4_2 pu n (l4_2 pu n w0) n1 c1 z0 s1 z1 z2 q1 = some v:=hm
  unfold b4_2 at hm
  refine .then (.rK ?_)
  replace hm:=bb_inv hm;obtain ⟨h0,hm⟩:=hm
  refine .ghs (fr 42 [(5,sc 0 0 1 n1 c1),(6,zI z0),(11,Sl.v 1 s1),(12,zI z1),(13,zI z2),(14,(zB (ilt z2 z1)))]) (hp 1 [oC q1]) (.k [0] [] [.tmp 5 false] [5,6,11,12,13,14] ⟨trF h0,trivial⟩) ?_
  refine .then ?_
  replace hm:=bb_cases hm;rcases hm with ⟨h1,hm⟩ | ⟨h1,hm⟩
  ·refine .ifT (ilt z2 z1) (by kernel_rfl) h1 ?_
   refine .skip ?_
   refine .ghs (fr 42 [(5,sc 0 0 1 n1 c1),(6,zI z0),(11,Sl.v 1 s1),(12,zI z1),(13,zI z2)]) (hp 1 [oC q1]) (.k [0] [] [.tmp 5 false] [5,6,11,12,13] ⟨trF h0,trivial⟩) ?_
   refine .then ?_
   refine .block ?_
   refine .then ?_
   replace hm:=oo_inv hm;obtain ⟨k1,h2,hm⟩:=hm
   obtain rfl:=toN_some h2
   replace hm:=bb_inv hm;obtain ⟨h3,hm⟩:=hm
   replace hm:=oo_inv hm;obtain ⟨v0,h4,hm⟩:=hm
   replace hm:=inv_toI hm;obtain ⟨x1,rfl,hm⟩:=hm
   refine .reg (eD (keep (hp 1 [oC q1]) (bb (an (Nat.blt k1 (Sl.n s1)) true) (some (fpV (k1 * 1) (Sl.cs s1))) none)) (keep_bb h3) (eD (keep (hp 1 [oC q1]) (nthL (Sl.cs s1) (k1 * 1))) (keep_eq h4) (eE))) ?_
   refine .ghs (fr 42 [(5,sc 0 0 1 n1 c1),(6,zI z0),(8,(zY x1)),(11,Sl.v 1 s1),(12,zI z1),(13,(zI (Int.ofNat k1)))]) (hp 1 [oC q1]) (.k [0] [] [.tmp 5 false] [5,6,8,11,12,13] ⟨trF h0,trivial⟩) ?_
   refine .then ?_
   refine .then (.rK ?_)
   refine .ghs (fr 42 [(5,sc 0 0 1 n1 c1),(6,zI z0),(8,(zY x1)),(11,Sl.v 1 s1),(12,zI z1),(13,(zI (Int.ofNat k1))),(18,(zB (ieq z0 (0:Int))))]) (hp 1 [oC q1]) (.k [0] [] [.tmp 5 false] [5,6,8,11,12,13,18] ⟨trF h0,trivial⟩) ?_
   replace hm:=bb_cases hm;rcases hm with ⟨h5,hm⟩ | ⟨h5,hm⟩
   ·refine .ifT (ieq z0 (0 : Int)) (by kernel_rfl) h5 ?_
    refine .exit ?_
    exact ⟨(n1,c1,q1),hm,(.k [0] [] [.tmp 5 false] [5] ⟨trF h0,trivial⟩)⟩
   ·refine .ifF (ieq z0 (0 : Int)) (by kernel_rfl) h5 ?_
    refine .skip ?_
    refine .ghs (fr 42 [(5,sc 0 0 1 n1 c1),(6,zI z0),(8,(zY x1)),(11,Sl.v 1 s1),(12,zI z1),(13,(zI (Int.ofNat k1)))]) (hp 1 [oC q1]) (.k [0] [] [.tmp 5 false] [5,6,8,11,12,13] ⟨trF h0,trivial⟩) ?_
    refine .then ?_
    replace hm:=bb_inv hm;obtain ⟨h6,hm⟩:=hm
    refine .reg (eC 3 (keep (hp 1 [oC q1]) (bb (ieq z0 (0:Int)) none (some (zI (Int.tmod (wrapF .i64 x1) z0))))) (keep_nb h6) (eE)) ?_
    refine .ghs (fr 42 [(5,sc 0 0 1 n1 c1),(6,zI z0),(9,(zI (wrapF .i64 (Int.add (1:Int) (Int.tmod (wrapF .i64 x1) z0))))),(11,Sl.v 1 s1),(12,zI z1),(13,(zI (Int.ofNat k1)))]) (hp 1 [oC q1]) (.k [0] [] [.tmp 5 false] [5,6,9,11,12,13] ⟨trF h0,trivial⟩) ?_
    refine .then ?_
    replace hm:=bb_inv hm;obtain ⟨h7,hm⟩:=hm
    refine .reg (eC 3 (growD 1 8 n1 c1 1 0 q1 [(zI (wrapF .i64 (Int.add (1:Int) (Int.tmod (wrapF .i64 x1) z0))))] [] (hp 2 [oC q1,(oC [(zI (wrapF .i64 (Int.add (1:Int) (Int.tmod (wrapF .i64 x1) z0))))])])) (growD_eq h7) (eE)) ?_
    replace hm:=bb_inv hm;obtain ⟨h8,hm⟩:=hm
    refine .ghs (fr 42 [(5,(sc 0 0 1 (n1 + 1) (d2 (n1 + 1)))),(6,zI z0),(9,(zI (wrapF .i64 (Int.add (1:Int) (Int.tmod (wrapF .i64 x1) z0))))),(11,Sl.v 1 s1),(12,zI z1),(13,(zI (Int.ofNat k1)))]) (hp 1 [(oC (appL (dropL 0 q1) [(zI (wrapF .i64 (Int.add (1:Int) (Int.tmod (wrapF .i64 x1) z0))))]))]) (.k [2] [] [.tmp 5 false] [5,6,9,11,12,13] ⟨trF h8,trivial⟩) ?_
    refine .rK ?_
    refine .ghs (fr 42 [(5,(sc 0 0 1 (n1 + 1) (d2 (n1 + 1)))),(6,(zI (wrapF .i64 (Int.sub z0 (wrapF .i64 (Int.add (1:Int) (Int.tmod (wrapF .i64 x1) z0))))))),(11,Sl.v 1 s1),(12,zI z1),(13,(zI (Int.ofNat k1)))]) (hp 1 [(oC (appL (dropL 0 q1) [(zI (wrapF .i64 (Int.add (1:Int) (Int.tmod (wrapF .i64 x1) z0))))]))]) (.k [0] [] [.tmp 5 false] [5,6,11,12,13] ⟨trF h8,trivial⟩) ?_
    refine .rK ?_
    exact ⟨((n1 + 1),(d2 (n1 + 1)),(wrapF .i64 (Int.sub z0 (wrapF .i64 (Int.add (1:Int) (Int.tmod (wrapF .i64 x1) z0))))),s1,z1,(wrapF .i64 (Int.add (Int.ofNat k1) (1:Int))),(appL (dropL 0 q1) [(zI (wrapF .i64 (Int.add (1:Int) (Int.tmod (wrapF .i64 x1) z0))))])),hm,(.k [0] [] [.tmp 5 false] [5,6,11,12,13] ⟨trF h8,trivial⟩)⟩
  ·refine .ifF (ilt z2 z1) (by kernel_rfl) h1 ?_
   refine .exit ?_
   exact ⟨(n1,c1,q1),hm,(.k [0] [] [.tmp 5 false] [5] ⟨trF h0,trivial⟩)⟩
end
end Go.HpYM
