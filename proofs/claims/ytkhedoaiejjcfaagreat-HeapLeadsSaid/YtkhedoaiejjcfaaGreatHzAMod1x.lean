/- Made from wip. -/
import Derived.Test.YtkhedoaiejjcfaaGreatSpSortKx
import Derived.Test.YtkhedoaiejjcfaaGreatHzACode
import Derived.KernelRfl

set_option maxRecDepth 100000
namespace Go.Sp
theorem Weak.cap (id off sz ln m:Nat):Weak (.slice (some ⟨id,off,some sz⟩) ln (2 * m + 1)) (.slice (some ⟨id,off,some sz⟩) ln (2 * m)):=fun R u h=>by
 have e1:(2 * m + 1) / 2 = m:=by omega
 have e2:2 * m / 2 = m:=by omega
 cases h with
 | sl h h1 h2 h3 h4 =>
  rw [e1] at h1 h2
  exact .sl h (by rw [e2];exact h1) (by rw [e2];exact h2) (fun h=>by omega) h4
 | slE h=>exact .slE (by omega)
 | slN h=>exact .slN (by omega)
end Go.Sp
namespace Go.HzAM
open Go.Sp Go.HzA
noncomputable section
def orc68 (args:List Value):Option Value:=
 ll args none fun a r => ll r none fun b r => ll r (oo (toSl 1 a) none fun s => oo (toI .i64 b) none fun z => oo (toN z) none fun k => ll s.cs none fun x r => ll r (oo (toI .i64 x) none fun y => bb (an (Nat.beq s.n 1) (Nat.ble k 21))
  (some (Sl.v 1 ⟨k,0,zeroRow [.int .i64 y] k⟩)) none) fun _ _=>none) fun _ _=>none
def orc60 (args:List Value):Option Value:=
 ll args none fun a r=>ll r (oo (toSl 1 a) none fun s=>ll s.cs none fun x r=>ll r none fun y r=>ll r (oo (toSl 1 x) none fun u=>oo (toSl 1 y) none fun v=>oo (mapO (toSl 1) u.cs) none fun us=>oo (mapO (toSl 1) v.cs) none fun vs=>
  bb (an (Nat.beq s.n 2) (an (Nat.beq s.fl 0) (an (Nat.beq u.fl 0) (an (Nat.beq v.fl 0) (an (Nat.beq u.n (len us)) (an (Nat.beq v.n (len vs)) (an (Nat.ble 1 (len us)) (Nat.ble (len us + len vs) 7))))))))
   (some (Sl.v 1 ⟨len us + len vs,0,appL u.cs v.cs⟩)) none) fun _ _=>none) fun _ _=>none
def orc16 (_:List Value):Option Value:=none
def orc8 (_:List Value):Option Value:=none
def orc19 (_:List Value):Option Value:=none
def orc20 (_:List Value):Option Value:=none
def identF (args:List Value) (H:AHeap):Option (Value×AHeap):=ll args none fun a r=>ll r (AHeap.rec (motive:=fun _=>Option (Value×AHeap)) (fun k T z=>bb z (some (a,⟨k,T,true⟩)) none) H) fun _ _=>none
theorem identEv (a:Value) (k:Nat) (T:Tr AObj):evFn tt fns 2 42 [a] ⟨k,T,true⟩ = some (a,⟨k,T,true⟩):=by kernel_rfl
theorem ident42_ok {P : Program} (hT : TOk P tt) (hf : ∀ f r, fns f = some r → FnOk P [] f r) (hm : P.follows .mixedOrders = true) {args : List Value} {H H' : AHeap} {v : Value} (h : identF args H = some (v, H')) :
 (∀ (as:Array Value) (w:World),(callFunc 42 as).run P w = .ok (.enter 42 as) w) ∧
 ∀ R w args',Sim H R w→GlR [] R→VRL R args args'→Calls P 42 ⟨args'⟩ w fun e w'=>∃ u R',e = .returned u∧VR R' v u∧Post H R w H' R' w':=by
 obtain ⟨a,r,rfl,h⟩:=ll_uncons h
 obtain ⟨rfl,h⟩:=ll_end h
 obtain ⟨k,T,z⟩:=H
 obtain ⟨hz,h⟩:=bb_inv (show bb z _ none = some _ from h)
 subst hz
 injection h with h
 injection h with h1 h2
 subst h1;subst h2
 exact (evFn_ok hT hf hm 2) 42 _ _ _ _ (identEv a k T)
end
end Go.HzAM
set_option maxRecDepth 100000
set_option maxHeartbeats 20000000
set_option linter.unusedVariables false
namespace Go.HzAM
open Go.Sp Go.HzA
noncomputable section
def tabs:List (List Value):=[]
theorem trF {a b:Bool} (h:b = true) (e:a = b:=by kernel_rfl):a = true:=e.trans h
abbrev OV:=Option Value
abbrev LV:=List Value
def plist:List Nat:=[4,8,12,13,14,15,16,17,18,19,20,27,28,29,30,31,36,41,55,57,59,63,65]
def isP:FuncId→Bool:=fun g=>memN g plist
def inl (pu:PureF):CallF:=fun g args H=>bb (Nat.beq g 42) (identF args H) (bb (Nat.beq g 43) (sortF args H) (bb (Nat.beq g 56) (liveF tabs 1 (pu 56) args H) (bb (Nat.beq g 60) (giveF tabs 1 (pu 60) args H) (bb (Nat.beq g 68) (giveF tabs 1 (pu 68) args H) (bb (Nat.beq g 21) (giveF tabs 1 (pu 21) args H) (bb (Nat.beq g 44) (objG tabs [[none]] 1 [.tmp 0 false] [false] (pu 10440) args H) (none)))))))
def zA54:LV:=[(.int .i64 (0:Int)),(.int .i64 (0:Int)),(.int .i64 (0:Int)),(.int .i64 (0:Int)),(.int .i64 (0:Int)),(.int .i64 (0:Int)),(.int .i64 (0:Int)),(.int .i64 (0:Int)),(.int .i64 (0:Int)),(.int .i64 (0:Int)),(.int .i64 (0:Int)),(.int .i64 (0:Int)),(.int .i64 (0:Int)),(.int .i64 (0:Int)),(.int .i64 (0:Int)),(.int .i64 (0:Int)),(.int .i64 (0:Int)),(.int .i64 (0:Int)),(.int .i64 (0:Int)),(.int .i64 (0:Int)),(.int .i64 (0:Int)),(.int .i64 (0:Int))]
end
end Go.HzAM
set_option maxRecDepth 100000
set_option maxHeartbeats 20000000
set_option linter.unusedVariables false
namespace Go.HzAM
open Go.Sp Go.HzA
noncomputable section
def m4_1 (pu:PureF) (n:Nat) (b0:Bool):OV:=
 (some (.bool b0))
def m4_0 (pu:PureF) (n:Nat) (s0:Sl) (n0 c0:Nat) (z0:Int) (s1:Sl) (q1:LV) (e0:List Ent) (k1:Nat):OV:=
 (oo (pu 19 [Sl.v 1 s0]) none fun v0=>(oo (vTup v0) none fun l0=>(ll l0 none fun v1 l0=>(ll l0 none fun v2 l0=>(ll l0 (oo (toSl 1 v1) none fun s2=>(oo (toI .i64 v2) none fun x0=>(bb (allL closed1 q1) (bb (allL entClosed e0) (oo (pu 13 [Sl.v 1 s0]) none fun v3=>(oo (toI .i64 v3) none fun x1=>(oo (pu 20 [.int .i64 x1]) none fun v4=>(oo (vTup v4) none fun l1=>(ll l1 none fun v5 l1=>(ll l1 none fun v6 l1=>(ll l1 (oo (toI .i64 v5) none fun x2=>(oo (toI .i64 v6) none fun x3=>(bb (ieq x0 (0:Int)) (bb (ieq x3 (0:Int)) (bb (an (Nat.ble (0 + n0 * 1) (len q1)) (allL closed1 (takeL (n0 * 1) (dropL 0 q1)))) (oo (pu 21 [Sl.v 1 s2,(Sl.v 1 (Sl.mk n0 0 (takeL (n0 * 1) (dropL 0 q1))))]) none fun v7=>(oo (vBool v7) none fun b0=>(bb b0 (bb (an (Nat.blt 0 (Sl.n s0)) true) (oo (nthL (Sl.cs s0) (0 * 1)) none fun v8=>(oo (toI .i64 v8) none fun x4=>(bb (bq true (bq (ieq (Int.ofNat (Sl.n s2)) (0:Int)) (ilt x4 (wrapF .i64 (Int.sub (Int.ofNat (Sl.n s0)) (1:Int)))))) (bb (ieq x2 z0) (bb (ieq (wrapF .i64 (Int.sub (Int.ofNat (Sl.n s1)) (Int.ofNat (len e0)))) x2) (oo (pu 16 []) none fun v9=>(oo (vBool v9) none fun b1=>(m4_1 pu n b1))) (m4_1 pu n false)) (m4_1 pu n false)) (m4_1 pu n false)))) none) (m4_1 pu n false)))) none) (m4_1 pu n false)) (m4_1 pu n false)))) fun _ _=>none))))))) none) none))) fun _ _=>none)))))
def m4_3 (pu:PureF) (n:Nat) (ih0:Sl→Nat→Nat→Int→Sl→Sl→Int→Int→LV→List Ent→Nat→OV) (s0:Sl) (n0 c0:Nat) (z0:Int) (s1 s2:Sl) (z1 z2:Int) (q1:LV) (e0:List Ent) (k1:Nat):OV:=
 (bb (allL closed1 q1) (bb (allL entClosed e0) (ih0 s0 n0 c0 z0 s1 s2 z1 (wrapF .i64 (Int.add z2 (1:Int))) q1 e0 k1) none) none)
def m4_4 (pu:PureF) (n:Nat) (ih0:Sl→Nat→Nat→Int→Sl→Sl→Int→Int→LV→List Ent→Nat→OV) (s0:Sl) (n0 c0:Nat) (z0:Int) (s1 s2 s3:Sl) (z1 z2:Int) (q1:LV) (e0:List Ent) (k1:Nat):OV:=
 (oo (pu 15 [Sl.v 1 s2]) none fun v0=>(oo (toSl 1 v0) none fun s4=>(oo (pu 18 [Sl.v 1 s4]) none fun v1=>(oo (toI .i64 v1) none fun x0=>(oo (findE (.int .i64 x0) e0 0) none fun r0=>(bb (allL closed1 q1) (bb (allL entClosed (updE (.int .i64 x0) (.bool true) k1 e0 r0)) (bb (an (Nat.blt 0 (Sl.n s2)) true) (oo (nthL (Sl.cs s2) (0 * 1)) none fun v2=>(oo (toI .i64 v2) none fun x1=>(bb (ilt x1 (wrapF .i64 (Int.sub (Int.ofNat (Sl.n s2)) (1:Int)))) (m4_3 pu n ih0 s0 n0 c0 (wrapF .i64 (Int.add z0 (1:Int))) s1 s3 z1 z2 q1 (updE (.int .i64 x0) (.bool true) k1 e0 r0) (updC k1 r0)) (m4_3 pu n ih0 s0 n0 c0 z0 s1 s3 z1 z2 q1 (updE (.int .i64 x0) (.bool true) k1 e0 r0) (updC k1 r0))))) none) none) none))))))
def b4_2 (pu:PureF) (n:Nat) (ih0:Sl→Nat→Nat→Int→Sl→Sl→Int→Int→LV→List Ent→Nat→OV) (s0:Sl) (n0 c0:Nat) (z0:Int) (s1 s2:Sl) (z1 z2:Int) (q1:LV) (e0:List Ent) (k1:Nat):OV:=
 (bb (allL closed1 q1) (bb (allL entClosed e0) (bb (ilt z2 z1) (oo (toN z2) none fun k2=>(bb (an (Nat.blt k2 (Sl.n s2)) true) (oo (nthL (Sl.cs s2) (k2 * 1)) none fun v0=>(oo (toSl 1 v0) none fun s3=>(oo (pu 15 [Sl.v 1 s3]) none fun v1=>(oo (toSl 1 v1) none fun s4=>(oo (pu 14 [Sl.v 1 s4,Sl.v 1 s0]) none fun v2=>(oo (vBool v2) none fun b0=>(bb b0 (bb (growC 1 24 n0 c0 1 q1) (bb (allL closed1 (appL (dropL 0 q1) [Sl.v 1 s3])) (m4_4 pu n ih0 s0 (n0 + 1) (2 * (n0 + 1) + bb false 1 0) z0 s1 s3 s2 z1 (Int.ofNat k2) (appL (dropL 0 q1) [Sl.v 1 s3]) e0 k1) none) none) (m4_4 pu n ih0 s0 n0 c0 z0 s1 s3 s2 z1 (Int.ofNat k2) q1 e0 k1)))))))) none)) (m4_0 pu n s0 n0 c0 z0 s1 q1 e0 k1)) none) none)
def l4_2 (pu:PureF) (n w:Nat):Sl→Nat→Nat→Int→Sl→Sl→Int→Int→LV→List Ent→Nat→OV:=
 Nat.rec (motive:=fun _=>Sl→Nat→Nat→Int→Sl→Sl→Int→Int→LV→List Ent→Nat→OV) (fun _ _ _ _ _ _ _ _ _ _ _=>none) (fun _ ih0=>b4_2 pu n ih0) w
def m4_ (pu:PureF) (n:Nat) (s1:Sl):OV:=
 (oo (pu 17 [Sl.v 1 s1,(.int .i64 (12:Int))]) none fun v7=>(oo (toSl 1 v7) none fun s9=>(bb (allL entClosed ([]:List Ent)) (oo (pu 13 [Sl.v 1 s9]) none fun v20=>(oo (toI .i64 v20) none fun x22=>(oo (pu 8 [.int .i64 x22]) none fun v24=>(oo (toSl 1 v24) none fun s26=>(l4_2 pu n n s9 0 0 (0:Int) s26 s26 (Int.ofNat (Sl.n s26)) (0:Int) ([]:LV) ([]:List Ent) 0))))) none)))
def m4 (pu:PureF) (n:Nat) (args:LV):OV:=
 (ll args none fun a0 args=>(ll args (oo (toSl 1 a0) none fun s1=>(m4_ pu n s1)) fun _ _=>none))
theorem w4_1 (pu:PureF) (n:Nat) (b0:Bool) {v:Value} (hm:m4_1 pu n b0 = some v):Run tt (callP tabs isP pu (inl pu)) 0 .ret (fr 100 [(2,zB b0)]) (hp 0 []) (Fin tt 0 [.tmp 2] v):=by
 unfold m4_1 at hm
 refine .ret ?_
 exact fin_ret (zB b0) (by kernel_rfl) (by kernel_rfl) hm
theorem w4_0 (pu:PureF) (n:Nat) (s0:Sl) (n0 c0:Nat) (z0:Int) (s1:Sl) (q1:LV) (e0:List Ent) (k1:Nat) {v:Value} (hm:m4_0 pu n s0 n0 c0 z0 s1 q1 e0 k1 = some v):Run tt (callP tabs isP pu (inl pu)) 0 c4_34 (fr 100 [(3,Sl.v 1 s0),(4,sc 0 0 1 n0 c0),(5,zI z0),(6,(.map (some 1))),(7,Sl.v 1 s1)]) (hp 2 [oC q1,(.map e0 k1)]) (Fin tt 0 [.tmp 2] v):=by
 unfold m4_0 at hm
 refine .then ?_
 replace hm:=oo_inv hm;obtain ⟨v0,h0,hm⟩:=hm
 replace hm:=inv_vTup hm;obtain ⟨l0,rfl,hm⟩:=hm
 replace hm:=ll_uncons hm;obtain ⟨v1,l273_0,rfl,hm⟩:=hm
 replace hm:=ll_uncons hm;obtain ⟨v2,l273_1,rfl,hm⟩:=hm
 replace hm:=ll_end hm;obtain ⟨rfl,hm⟩:=hm
 replace hm:=inv_toSl hm;obtain ⟨s2,rfl,hm⟩:=hm
 replace hm:=inv_toI hm;obtain ⟨x0,rfl,hm⟩:=hm
 refine .reg (eC 1 ((oo (pu 19 [Sl.v 1 s0]) none fun v=>some (v,(hp 2 [oC q1,(.map e0 k1)])))) (call_eq h0) (eE)) ?_
 replace hm:=bb_inv hm;obtain ⟨h1,hm⟩:=hm
 replace hm:=bb_inv hm;obtain ⟨h2,hm⟩:=hm
 refine .ghs (fr 100 [(3,Sl.v 1 s0),(4,sc 0 0 1 n0 c0),(5,zI z0),(6,(.map (some 1))),(7,Sl.v 1 s1),(10,Sl.v 1 s2),(11,zI x0)]) (hp 2 [oC q1,(.map e0 k1)]) (.k [0,1] [] [.tmp 4 false,.tmp 6 false] [3,4,5,6,7,10,11] ⟨trF h1,trF h2,trivial⟩) ?_
 refine .then ?_
 replace hm:=oo_inv hm;obtain ⟨v3,h3,hm⟩:=hm
 replace hm:=inv_toI hm;obtain ⟨x1,rfl,hm⟩:=hm
 replace hm:=oo_inv hm;obtain ⟨v4,h4,hm⟩:=hm
 replace hm:=inv_vTup hm;obtain ⟨l1,rfl,hm⟩:=hm
 replace hm:=ll_uncons hm;obtain ⟨v5,l303_0,rfl,hm⟩:=hm
 replace hm:=ll_uncons hm;obtain ⟨v6,l303_1,rfl,hm⟩:=hm
 replace hm:=ll_end hm;obtain ⟨rfl,hm⟩:=hm
 replace hm:=inv_toI hm;obtain ⟨x2,rfl,hm⟩:=hm
 replace hm:=inv_toI hm;obtain ⟨x3,rfl,hm⟩:=hm
 refine .reg (eC 1 ((oo (pu 13 [Sl.v 1 s0]) none fun v=>some (v,(hp 2 [oC q1,(.map e0 k1)])))) (call_eq h3) (eD ((oo (pu 20 [zI x1]) none fun v=>some (v,(hp 2 [oC q1,(.map e0 k1)])))) (call_eq h4) (eE))) ?_
 refine .ghs (fr 100 [(3,Sl.v 1 s0),(4,sc 0 0 1 n0 c0),(5,zI z0),(6,(.map (some 1))),(7,Sl.v 1 s1),(10,Sl.v 1 s2),(11,zI x0),(12,zI x2),(13,zI x3)]) (hp 2 [oC q1,(.map e0 k1)]) (.k [0,1] [] [.tmp 4 false,.tmp 6 false] [3,4,5,6,7,10,11,12,13] ⟨trF h1,trF h2,trivial⟩) ?_
 refine .join (v:=v) (fun y:Bool=>((fr 100 [(2,zB y)]),(hp 0 []))) (fun y=>m4_1 pu n y) ?_ ?_
 ·rintro b0 hm
  exact w4_1 pu n b0 hm
 ·replace hm := bb_cases hm; rcases hm with ⟨h5, hm⟩ | ⟨h5, hm⟩
  ·replace hm := bb_cases hm; rcases hm with ⟨h6, hm⟩ | ⟨h6, hm⟩
   ·replace hm := bb_inv hm; obtain ⟨h7, hm⟩ := hm
    replace hm:=oo_inv hm;obtain ⟨v7,h8,hm⟩:=hm
    replace hm:=inv_vBool hm;obtain ⟨b1,rfl,hm⟩:=hm
    replace hm:=bb_cases hm;rcases hm with ⟨h9,hm⟩ | ⟨h9,hm⟩
    ·replace hm := bb_inv hm; obtain ⟨h10, hm⟩ := hm
     replace hm:=oo_inv hm;obtain ⟨v8,h11,hm⟩:=hm
     replace hm:=inv_toI hm;obtain ⟨x4,rfl,hm⟩:=hm
     replace hm:=bb_cases hm;rcases hm with ⟨h12,hm⟩ | ⟨h12,hm⟩
     ·replace hm := bb_cases hm; rcases hm with ⟨h13, hm⟩ | ⟨h13, hm⟩
      ·replace hm := bb_cases hm; rcases hm with ⟨h14, hm⟩ | ⟨h14, hm⟩
       ·replace hm := oo_inv hm; obtain ⟨v9, h15, hm⟩ := hm
        replace hm:=inv_vBool hm;obtain ⟨b2,rfl,hm⟩:=hm
        refine .reg (eN 10 (Fr.puts (fr 100 [(3,Sl.v 1 s0),(4,sc 0 0 1 n0 c0),(5,zI z0),(6,(.map (some 1))),(7,Sl.v 1 s1),(10,Sl.v 1 s2),(11,zI x0),(12,zI x2),(13,zI x3)]) [(59,zI x0),(60,zB true),(61,zB true),(62,zI x3),(63,zB true),(64,zB true),(65,zB true),(66,Sl.v 1 s2),(67,sc 0 0 1 n0 c0),(68,zB true)]) (hp 2 [.dead,(.map e0 k1)]) (eC 1 (some ((zB (ieq x0 (0:Int))),(hp 2 [oC q1,(.map e0 k1)]))) (show _ = some ((zB true),_) from (by rw [h5])) (eC 2 (some ((zB (ieq x3 (0:Int))),(hp 2 [oC q1,(.map e0 k1)]))) (show _ = some ((zB true),_) from (by rw [h6])) (eC 4 (giveF tabs 1 (pu 21) [Sl.v 1 s2,sc 0 0 1 n0 c0] (hp 2 [oC q1,(.map e0 k1)])) (show _ = some ((zB true),_) from (by have hz:giveF tabs 1 (pu 21) [Sl.v 1 s2,sc 0 0 1 n0 c0] (hp 2 [oC q1,(.map e0 k1)]) = some ((zB b1),(hp 2 [.dead,(.map e0 k1)])):=(giveF_eq (giveL_cons (giveV_cl (z:=1) (v:=(Sl.v 1 s2)) (H:=(hp 2 [oC q1,(.map e0 k1)])) (by kernel_rfl) (by kernel_rfl) (by kernel_rfl)) (giveL_cons (show giveV 1 (sc 0 0 1 n0 c0) (hp 2 [oC q1,(.map e0 k1)]) = some ((Sl.v 1 (Sl.mk n0 0 (takeL (n0 * 1) (dropL 0 q1)))),(hp 2 [.dead,(.map e0 k1)])) from giveV_sl 0 0 1 n0 c0 q1 [] (by kernel_rfl) (by kernel_rfl) h7) giveL_nil)) (by kernel_rfl) h8);rw [h9] at hz;exact hz)) (by kernel_rfl)))) (eN 13 (Fr.puts (fr 100 [(3,Sl.v 1 s0),(4,sc 0 0 1 n0 c0),(5,zI z0),(6,(.map (some 1))),(7,Sl.v 1 s1),(10,Sl.v 1 s2),(11,zI x0),(12,zI x2),(13,zI x3)]) [(59,zI x0),(60,zB true),(61,zB true),(62,zI x3),(63,zB true),(64,zB true),(65,zB true),(66,Sl.v 1 s2),(67,sc 0 0 1 n0 c0),(68,zB true),(69,zB true),(70,zB true),(71,Sl.v 1 s2),(72,(zI (Int.ofNat (Sl.n s2)))),(73,(zB (ieq (Int.ofNat (Sl.n s2)) (0:Int)))),(74,Sl.v 1 s0),(75,(fpV (0 * 1) (Sl.cs s0))),(76,zI x4),(77,Sl.v 1 s0),(78,(zI (Int.ofNat (Sl.n s0)))),(79,(zI (wrapF .i64 (Int.sub (Int.ofNat (Sl.n s0)) (1:Int))))),(80,(zB (ilt x4 (wrapF .i64 (Int.sub (Int.ofNat (Sl.n s0)) (1:Int)))))),(81,zB true)]) (hp 2 [.dead,(.map e0 k1)]) (eC 6 (keep (hp 2 [.dead,(.map e0 k1)]) (bb (an (Nat.blt 0 (Sl.n s0)) true) (some (fpV (0 * 1) (Sl.cs s0))) none)) (keep_bb h10) (eD (keep (hp 2 [.dead,(.map e0 k1)]) (nthL (Sl.cs s0) (0 * 1))) (keep_eq h11) (eC 4 (some ((zB (bq true (bq (ieq (Int.ofNat (Sl.n s2)) (0:Int)) (ilt x4 (wrapF .i64 (Int.sub (Int.ofNat (Sl.n s0)) (1:Int))))))),(hp 2 [.dead,(.map e0 k1)]))) (show _ = some ((zB true),_) from (by rw [h12])) (by kernel_rfl)))) (eC 4 (some ((zB (ieq x2 z0)),(hp 2 [.dead,(.map e0 k1)]))) (show _ = some ((zB true),_) from (by rw [h13])) (eC 8 (some ((zB (ieq (wrapF .i64 (Int.sub (Int.ofNat (Sl.n s1)) (Int.ofNat (len e0)))) x2)),(hp 2 [.dead,(.map e0 k1)]))) (show _ = some ((zB true),_) from (by rw [h14])) (eC 2 ((oo (pu 16 []) none fun v=>some (v,(hp 2 [.dead,(.map e0 k1)])))) (call_eq h15) (eE)))))) ?_
        exact ⟨b2,hm,(.k0 [] [] [2])⟩
       ·refine .reg (eN 10 (Fr.puts (fr 100 [(3, Sl.v 1 s0), (4, sc 0 0 1 n0 c0), (5, zI z0), (6, (.map (some 1))), (7, Sl.v 1 s1), (10, Sl.v 1 s2), (11, zI x0), (12, zI x2), (13, zI x3)]) [(59, zI x0), (60, zB true), (61, zB true), (62, zI x3), (63, zB true), (64, zB true), (65, zB true), (66, Sl.v 1 s2), (67, sc 0 0 1 n0 c0), (68, zB true)]) (hp 2 [.dead, (.map e0 k1)]) (eC 1 (some ((zB (ieq x0 (0 : Int))), (hp 2 [oC q1, (.map e0 k1)]))) (show _ = some ((zB true), _) from (by rw [h5])) (eC 2 (some ((zB (ieq x3 (0 : Int))), (hp 2 [oC q1, (.map e0 k1)]))) (show _ = some ((zB true), _) from (by rw [h6])) (eC 4 (giveF tabs 1 (pu 21) [Sl.v 1 s2, sc 0 0 1 n0 c0] (hp 2 [oC q1, (.map e0 k1)])) (show _ = some ((zB true), _) from (by have hz : giveF tabs 1 (pu 21) [Sl.v 1 s2, sc 0 0 1 n0 c0] (hp 2 [oC q1, (.map e0 k1)]) = some ((zB b1), (hp 2 [.dead, (.map e0 k1)])) := (giveF_eq (giveL_cons (giveV_cl (z := 1) (v := (Sl.v 1 s2)) (H := (hp 2 [oC q1, (.map e0 k1)])) (by kernel_rfl) (by kernel_rfl) (by kernel_rfl)) (giveL_cons (show giveV 1 (sc 0 0 1 n0 c0) (hp 2 [oC q1, (.map e0 k1)]) = some ((Sl.v 1 (Sl.mk n0 0 (takeL (n0 * 1) (dropL 0 q1)))), (hp 2 [.dead, (.map e0 k1)])) from giveV_sl 0 0 1 n0 c0 q1 [] (by kernel_rfl) (by kernel_rfl) h7) giveL_nil)) (by kernel_rfl) h8); rw [h9] at hz; exact hz)) (by kernel_rfl)))) (eC 6 (keep (hp 2 [.dead, (.map e0 k1)]) (bb (an (Nat.blt 0 (Sl.n s0)) true) (some (fpV (0 * 1) (Sl.cs s0))) none)) (keep_bb h10) (eD (keep (hp 2 [.dead, (.map e0 k1)]) (nthL (Sl.cs s0) (0 * 1))) (keep_eq h11) (eC 4 (some ((zB (bq true (bq (ieq (Int.ofNat (Sl.n s2)) (0 : Int)) (ilt x4 (wrapF .i64 (Int.sub (Int.ofNat (Sl.n s0)) (1 : Int))))))), (hp 2 [.dead, (.map e0 k1)]))) (show _ = some ((zB true), _) from (by rw [h12])) (eC 4 (some ((zB (ieq x2 z0)), (hp 2 [.dead, (.map e0 k1)]))) (show _ = some ((zB true), _) from (by rw [h13])) (eC 8 (some ((zB (ieq (wrapF .i64 (Int.sub (Int.ofNat (Sl.n s1)) (Int.ofNat (len e0)))) x2)), (hp 2 [.dead, (.map e0 k1)]))) (show _ = some ((zB false), _) from (by rw [h14])) (eE))))))) ?_
        exact ⟨false,hm,(.k0 [] [] [2])⟩
      ·refine .reg (eN 10 (Fr.puts (fr 100 [(3, Sl.v 1 s0), (4, sc 0 0 1 n0 c0), (5, zI z0), (6, (.map (some 1))), (7, Sl.v 1 s1), (10, Sl.v 1 s2), (11, zI x0), (12, zI x2), (13, zI x3)]) [(59, zI x0), (60, zB true), (61, zB true), (62, zI x3), (63, zB true), (64, zB true), (65, zB true), (66, Sl.v 1 s2), (67, sc 0 0 1 n0 c0), (68, zB true)]) (hp 2 [.dead, (.map e0 k1)]) (eC 1 (some ((zB (ieq x0 (0 : Int))), (hp 2 [oC q1, (.map e0 k1)]))) (show _ = some ((zB true), _) from (by rw [h5])) (eC 2 (some ((zB (ieq x3 (0 : Int))), (hp 2 [oC q1, (.map e0 k1)]))) (show _ = some ((zB true), _) from (by rw [h6])) (eC 4 (giveF tabs 1 (pu 21) [Sl.v 1 s2, sc 0 0 1 n0 c0] (hp 2 [oC q1, (.map e0 k1)])) (show _ = some ((zB true), _) from (by have hz : giveF tabs 1 (pu 21) [Sl.v 1 s2, sc 0 0 1 n0 c0] (hp 2 [oC q1, (.map e0 k1)]) = some ((zB b1), (hp 2 [.dead, (.map e0 k1)])) := (giveF_eq (giveL_cons (giveV_cl (z := 1) (v := (Sl.v 1 s2)) (H := (hp 2 [oC q1, (.map e0 k1)])) (by kernel_rfl) (by kernel_rfl) (by kernel_rfl)) (giveL_cons (show giveV 1 (sc 0 0 1 n0 c0) (hp 2 [oC q1, (.map e0 k1)]) = some ((Sl.v 1 (Sl.mk n0 0 (takeL (n0 * 1) (dropL 0 q1)))), (hp 2 [.dead, (.map e0 k1)])) from giveV_sl 0 0 1 n0 c0 q1 [] (by kernel_rfl) (by kernel_rfl) h7) giveL_nil)) (by kernel_rfl) h8); rw [h9] at hz; exact hz)) (by kernel_rfl)))) (eC 6 (keep (hp 2 [.dead, (.map e0 k1)]) (bb (an (Nat.blt 0 (Sl.n s0)) true) (some (fpV (0 * 1) (Sl.cs s0))) none)) (keep_bb h10) (eD (keep (hp 2 [.dead, (.map e0 k1)]) (nthL (Sl.cs s0) (0 * 1))) (keep_eq h11) (eC 4 (some ((zB (bq true (bq (ieq (Int.ofNat (Sl.n s2)) (0 : Int)) (ilt x4 (wrapF .i64 (Int.sub (Int.ofNat (Sl.n s0)) (1 : Int))))))), (hp 2 [.dead, (.map e0 k1)]))) (show _ = some ((zB true), _) from (by rw [h12])) (eC 4 (some ((zB (ieq x2 z0)), (hp 2 [.dead, (.map e0 k1)]))) (show _ = some ((zB false), _) from (by rw [h13])) (eE)))))) ?_
       exact ⟨false,hm,(.k0 [] [] [2])⟩
     ·refine .reg (eN 10 (Fr.puts (fr 100 [(3, Sl.v 1 s0), (4, sc 0 0 1 n0 c0), (5, zI z0), (6, (.map (some 1))), (7, Sl.v 1 s1), (10, Sl.v 1 s2), (11, zI x0), (12, zI x2), (13, zI x3)]) [(59, zI x0), (60, zB true), (61, zB true), (62, zI x3), (63, zB true), (64, zB true), (65, zB true), (66, Sl.v 1 s2), (67, sc 0 0 1 n0 c0), (68, zB true)]) (hp 2 [.dead, (.map e0 k1)]) (eC 1 (some ((zB (ieq x0 (0 : Int))), (hp 2 [oC q1, (.map e0 k1)]))) (show _ = some ((zB true), _) from (by rw [h5])) (eC 2 (some ((zB (ieq x3 (0 : Int))), (hp 2 [oC q1, (.map e0 k1)]))) (show _ = some ((zB true), _) from (by rw [h6])) (eC 4 (giveF tabs 1 (pu 21) [Sl.v 1 s2, sc 0 0 1 n0 c0] (hp 2 [oC q1, (.map e0 k1)])) (show _ = some ((zB true), _) from (by have hz : giveF tabs 1 (pu 21) [Sl.v 1 s2, sc 0 0 1 n0 c0] (hp 2 [oC q1, (.map e0 k1)]) = some ((zB b1), (hp 2 [.dead, (.map e0 k1)])) := (giveF_eq (giveL_cons (giveV_cl (z := 1) (v := (Sl.v 1 s2)) (H := (hp 2 [oC q1, (.map e0 k1)])) (by kernel_rfl) (by kernel_rfl) (by kernel_rfl)) (giveL_cons (show giveV 1 (sc 0 0 1 n0 c0) (hp 2 [oC q1, (.map e0 k1)]) = some ((Sl.v 1 (Sl.mk n0 0 (takeL (n0 * 1) (dropL 0 q1)))), (hp 2 [.dead, (.map e0 k1)])) from giveV_sl 0 0 1 n0 c0 q1 [] (by kernel_rfl) (by kernel_rfl) h7) giveL_nil)) (by kernel_rfl) h8); rw [h9] at hz; exact hz)) (by kernel_rfl)))) (eC 6 (keep (hp 2 [.dead, (.map e0 k1)]) (bb (an (Nat.blt 0 (Sl.n s0)) true) (some (fpV (0 * 1) (Sl.cs s0))) none)) (keep_bb h10) (eD (keep (hp 2 [.dead, (.map e0 k1)]) (nthL (Sl.cs s0) (0 * 1))) (keep_eq h11) (eC 4 (some ((zB (bq true (bq (ieq (Int.ofNat (Sl.n s2)) (0 : Int)) (ilt x4 (wrapF .i64 (Int.sub (Int.ofNat (Sl.n s0)) (1 : Int))))))), (hp 2 [.dead, (.map e0 k1)]))) (show _ = some ((zB false), _) from (by rw [h12])) (eE))))) ?_
      exact ⟨false,hm,(.k0 [] [] [2])⟩
    ·refine .reg (eC 1 (some ((zB (ieq x0 (0 : Int))), (hp 2 [oC q1, (.map e0 k1)]))) (show _ = some ((zB true), _) from (by rw [h5])) (eC 2 (some ((zB (ieq x3 (0 : Int))), (hp 2 [oC q1, (.map e0 k1)]))) (show _ = some ((zB true), _) from (by rw [h6])) (eC 4 (giveF tabs 1 (pu 21) [Sl.v 1 s2, sc 0 0 1 n0 c0] (hp 2 [oC q1, (.map e0 k1)])) (show _ = some ((zB false), _) from (by have hz : giveF tabs 1 (pu 21) [Sl.v 1 s2, sc 0 0 1 n0 c0] (hp 2 [oC q1, (.map e0 k1)]) = some ((zB b1), (hp 2 [.dead, (.map e0 k1)])) := (giveF_eq (giveL_cons (giveV_cl (z := 1) (v := (Sl.v 1 s2)) (H := (hp 2 [oC q1, (.map e0 k1)])) (by kernel_rfl) (by kernel_rfl) (by kernel_rfl)) (giveL_cons (show giveV 1 (sc 0 0 1 n0 c0) (hp 2 [oC q1, (.map e0 k1)]) = some ((Sl.v 1 (Sl.mk n0 0 (takeL (n0 * 1) (dropL 0 q1)))), (hp 2 [.dead, (.map e0 k1)])) from giveV_sl 0 0 1 n0 c0 q1 [] (by kernel_rfl) (by kernel_rfl) h7) giveL_nil)) (by kernel_rfl) h8); rw [h9] at hz; exact hz)) (eE)))) ?_
     exact ⟨false,hm,(.k0 [] [] [2])⟩
   ·refine .reg (eC 1 (some ((zB (ieq x0 (0 : Int))), (hp 2 [oC q1, (.map e0 k1)]))) (show _ = some ((zB true), _) from (by rw [h5])) (eC 2 (some ((zB (ieq x3 (0 : Int))), (hp 2 [oC q1, (.map e0 k1)]))) (show _ = some ((zB false), _) from (by rw [h6])) (eE))) ?_
    exact ⟨false,hm,(.k0 [] [] [2])⟩
  ·refine .reg (eC 1 (some ((zB (ieq x0 (0 : Int))), (hp 2 [oC q1, (.map e0 k1)]))) (show _ = some ((zB false), _) from (by rw [h5])) (eE)) ?_
   exact ⟨false,hm,(.k0 [] [] [2])⟩
theorem r4 {call:CallF} (pu:PureF) (n:Nat) (hcall:call = callP tabs isP pu (inl pu)) {args:LV} {v:Value} (hm:m4 pu n args = some v) (_:∀ x ∈ args,closed2 x = true):args.length≤100∧Run tt call 0 c4_40 (Fr.made 100 args) (pureHeap tabs) (Fin tt 0 [.tmp 2] v):=by
 subst hcall
 unfold m4 at hm
 replace hm:=ll_uncons hm;obtain ⟨a0,args_0,rfl,hm⟩:=hm
 replace hm:=ll_end hm;obtain ⟨rfl,hm⟩:=hm
 replace hm:=inv_toSl hm;obtain ⟨s1,rfl,hm⟩:=hm
 unfold m4_ at hm
 refine ⟨by simp,?_⟩
 refine .same (F':=(fr 100 [(0,Sl.v 1 s1)])) (H':=(hp 0 [])) (by kernel_rfl) (by kernel_rfl) ?_
 refine .then (.rK ?_)
 refine .ghs (fr 100 [(0,Sl.v 1 s1)]) (hp 0 []) (.k0 [] [] [0]) ?_
 refine .then ?_
 replace hm:=oo_inv hm;obtain ⟨v7,h8,hm⟩:=hm
 replace hm:=inv_toSl hm;obtain ⟨s9,rfl,hm⟩:=hm
 refine .reg (eC 1 ((oo (pu 17 [Sl.v 1 s1,(zI (12:Int))]) none fun v=>some (v,(hp 0 [])))) (call_eq h8) (eE)) ?_
 refine .ghs (fr 100 [(3,Sl.v 1 s9)]) (hp 0 []) (.k0 [] [] [3]) ?_
 refine .then (.rK ?_)
 refine .ghs (fr 100 [(3,Sl.v 1 s9),(4,(.slice none 0 0))]) (hp 0 []) (.k0 [] [] [3,4]) ?_
 refine .then (.rK ?_)
 replace hm:=bb_inv hm;obtain ⟨h11,hm⟩:=hm
 refine .ghs (fr 100 [(3,Sl.v 1 s9),(4,(.slice none 0 0)),(5,(zI (0:Int))),(6,(.map (some 0)))]) (hp 1 [(.map ([]:List Ent) 0)]) (.k [0] [] [.tmp 6 false] [3,4,5,6] ⟨trF h11,trivial⟩) ?_
 refine .then ?_
 replace hm:=oo_inv hm;obtain ⟨v20,h21,hm⟩:=hm
 replace hm:=inv_toI hm;obtain ⟨x22,rfl,hm⟩:=hm
 replace hm:=oo_inv hm;obtain ⟨v24,h25,hm⟩:=hm
 replace hm:=inv_toSl hm;obtain ⟨s26,rfl,hm⟩:=hm
 refine .reg (eC 1 ((oo (pu 13 [Sl.v 1 s9]) none fun v=>some (v,(hp 1 [(.map ([]:List Ent) 0)])))) (call_eq h21) (eD ((oo (pu 8 [zI x22]) none fun v=>some (v,(hp 1 [(.map ([]:List Ent) 0)])))) (call_eq h25) (eE))) ?_
 refine .ghs (fr 100 [(3,Sl.v 1 s9),(4,(.slice none 0 0)),(5,(zI (0:Int))),(6,(.map (some 0))),(7,Sl.v 1 s26)]) (hp 1 [(.map ([]:List Ent) 0)]) (.k [0] [] [.tmp 6 false] [3,4,5,6,7] ⟨trF h11,trivial⟩) ?_
 refine .join (v:=v) (fun y:Sl×Nat×Nat×Int×Sl×LV×List Ent×Nat=>((fr 100 [(3,(Sl.v 1 y.1)),(4,(sc 0 0 1 y.2.1 y.2.2.1)),(5,(zI y.2.2.2.1)),(6,(.map (some 1))),(7,(Sl.v 1 y.2.2.2.2.1))]),(hp 2 [(oC y.2.2.2.2.2.1),(.map y.2.2.2.2.2.2.1 y.2.2.2.2.2.2.2)]))) (fun y=>m4_0 pu n y.1 y.2.1 y.2.2.1 y.2.2.2.1 y.2.2.2.2.1 y.2.2.2.2.2.1 y.2.2.2.2.2.2.1 y.2.2.2.2.2.2.2) ?_ ?_
 ·rintro ⟨s0, n0, c0, z0, s2, q1, e0, k1⟩ hm
  exact w4_0 pu n s0 n0 c0 z0 s2 q1 e0 k1 hm
 ·refine .then (.rK ?_)
  refine .ghs (fr 100 [(3,Sl.v 1 s9),(4,(.slice none 0 0)),(5,(zI (0:Int))),(6,(.map (some 0))),(7,Sl.v 1 s26),(20,Sl.v 1 s26),(21,(zI (Int.ofNat (Sl.n s26)))),(22,(zI (0:Int)))]) (hp 1 [(.map ([]:List Ent) 0)]) (.k [0] [] [.tmp 6 false] [3,4,5,6,7,20,21,22] ⟨trF h11,trivial⟩) ?_
  refine .block ?_
  refine .loopM (v:=v) (fun y:Sl×Nat×Nat×Int×Sl×Sl×Int×Int×LV×List Ent×Nat=>((fr 100 [(3,(Sl.v 1 y.1)),(4,(sc 0 0 1 y.2.1 y.2.2.1)),(5,(zI y.2.2.2.1)),(6,(.map (some 1))),(7,(Sl.v 1 y.2.2.2.2.1)),(20,(Sl.v 1 y.2.2.2.2.2.1)),(21,(zI y.2.2.2.2.2.2.1)),(22,(zI y.2.2.2.2.2.2.2.1))]),(hp 2 [(oC y.2.2.2.2.2.2.2.2.1),(.map y.2.2.2.2.2.2.2.2.2.1 y.2.2.2.2.2.2.2.2.2.2)]))) (fun w y=>l4_2 pu n w y.1 y.2.1 y.2.2.1 y.2.2.2.1 y.2.2.2.2.1 y.2.2.2.2.2.1 y.2.2.2.2.2.2.1 y.2.2.2.2.2.2.2.1 y.2.2.2.2.2.2.2.2.1 y.2.2.2.2.2.2.2.2.2.1 y.2.2.2.2.2.2.2.2.2.2) n ⟨(s9,0,0,(0:Int),s26,s26,(Int.ofNat (Sl.n s26)),(0:Int),([]:LV),([]:List Ent),0),hm,(.thaw 4 1 (by kernel_rfl) (.k [0] [] [.tmp 4 false,.tmp 6 false] [3,4,5,6,7,20,21,22] ⟨trF h11,trivial⟩))⟩ (fun _=>rfl) ?_
  rintro w0 ⟨s3,n1,c1,z1,s4,s5,z2,z3,q2,e1,k2⟩ hm
  replace hm:b4_2 pu n (l4_2 pu n w0) s3 n1 c1 z1 s4 s5 z2 z3 q2 e1 k2 = some v:=hm
  unfold b4_2 at hm
  refine .then (.rK ?_)
  replace hm:=bb_inv hm;obtain ⟨h0,hm⟩:=hm
  replace hm:=bb_inv hm;obtain ⟨h1,hm⟩:=hm
  refine .ghs (fr 100 [(3,Sl.v 1 s3),(4,sc 0 0 1 n1 c1),(5,zI z1),(6,(.map (some 1))),(7,Sl.v 1 s4),(20,Sl.v 1 s5),(21,zI z2),(22,zI z3),(23,(zB (ilt z3 z2)))]) (hp 2 [oC q2,(.map e1 k2)]) (.k [0,1] [] [.tmp 4 false,.tmp 6 false] [3,4,5,6,7,20,21,22,23] ⟨trF h0,trF h1,trivial⟩) ?_
  refine .then ?_
  replace hm:=bb_cases hm;rcases hm with ⟨h2,hm⟩ | ⟨h2,hm⟩
  ·refine .ifT (ilt z3 z2) (by kernel_rfl) h2 ?_
   refine .skip ?_
   refine .ghs (fr 100 [(3,Sl.v 1 s3),(4,sc 0 0 1 n1 c1),(5,zI z1),(6,(.map (some 1))),(7,Sl.v 1 s4),(20,Sl.v 1 s5),(21,zI z2),(22,zI z3)]) (hp 2 [oC q2,(.map e1 k2)]) (.k [0,1] [] [.tmp 4 false,.tmp 6 false] [3,4,5,6,7,20,21,22] ⟨trF h0,trF h1,trivial⟩) ?_
   refine .join (v:=v) (fun y:Sl×Nat×Nat×Int×Sl×Sl×Int×Int×LV×List Ent×Nat=>((fr 100 [(3,(Sl.v 1 y.1)),(4,(sc 0 0 1 y.2.1 y.2.2.1)),(5,(zI y.2.2.2.1)),(6,(.map (some 1))),(7,(Sl.v 1 y.2.2.2.2.1)),(20,(Sl.v 1 y.2.2.2.2.2.1)),(21,(zI y.2.2.2.2.2.2.1)),(22,(zI y.2.2.2.2.2.2.2.1))]),(hp 2 [(oC y.2.2.2.2.2.2.2.2.1),(.map y.2.2.2.2.2.2.2.2.2.1 y.2.2.2.2.2.2.2.2.2.2)]))) (fun y=>m4_3 pu n (l4_2 pu n w0) y.1 y.2.1 y.2.2.1 y.2.2.2.1 y.2.2.2.2.1 y.2.2.2.2.2.1 y.2.2.2.2.2.2.1 y.2.2.2.2.2.2.2.1 y.2.2.2.2.2.2.2.2.1 y.2.2.2.2.2.2.2.2.2.1 y.2.2.2.2.2.2.2.2.2.2) ?_ ?_
   ·rintro ⟨s6, n2, c2, z4, s7, s8, z5, z6, q3, e2, k3⟩ hm
    unfold m4_3 at hm
    refine .rK ?_
    replace hm:=bb_inv hm;obtain ⟨h3,hm⟩:=hm
    replace hm:=bb_inv hm;obtain ⟨h4,hm⟩:=hm
    exact ⟨(s6,n2,c2,z4,s7,s8,z5,(wrapF .i64 (Int.add z6 (1:Int))),q3,e2,k3),hm,(.k [0,1] [] [.tmp 4 false,.tmp 6 false] [3,4,5,6,7,20,21,22] ⟨trF h3,trF h4,trivial⟩)⟩
   ·refine .block ?_
    refine .then ?_
    replace hm:=oo_inv hm;obtain ⟨k4,h5,hm⟩:=hm
    obtain rfl:=toN_some h5
    replace hm:=bb_inv hm;obtain ⟨h6,hm⟩:=hm
    replace hm:=oo_inv hm;obtain ⟨v0,h7,hm⟩:=hm
    replace hm:=inv_toSl hm;obtain ⟨s10,rfl,hm⟩:=hm
    refine .reg (eD (keep (hp 2 [oC q2,(.map e1 k2)]) (bb (an (Nat.blt k4 (Sl.n s5)) true) (some (fpV (k4 * 1) (Sl.cs s5))) none)) (keep_bb h6) (eD (keep (hp 2 [oC q2,(.map e1 k2)]) (nthL (Sl.cs s5) (k4 * 1))) (keep_eq h7) (eE))) ?_
    refine .ghs (fr 100 [(3,Sl.v 1 s3),(4,sc 0 0 1 n1 c1),(5,zI z1),(6,(.map (some 1))),(7,Sl.v 1 s4),(9,Sl.v 1 s10),(20,Sl.v 1 s5),(21,zI z2),(22,(zI (Int.ofNat k4)))]) (hp 2 [oC q2,(.map e1 k2)]) (.k [0,1] [] [.tmp 4 false,.tmp 6 false] [3,4,5,6,7,9,20,21,22] ⟨trF h0,trF h1,trivial⟩) ?_
    refine .join (v:=v) (fun y:Sl×Nat×Nat×Int×Sl×Sl×Sl×Int×Int×LV×List Ent×Nat=>((fr 100 [(3,(Sl.v 1 y.1)),(4,(sc 0 0 1 y.2.1 y.2.2.1)),(5,(zI y.2.2.2.1)),(6,(.map (some 1))),(7,(Sl.v 1 y.2.2.2.2.1)),(9,(Sl.v 1 y.2.2.2.2.2.1)),(20,(Sl.v 1 y.2.2.2.2.2.2.1)),(21,(zI y.2.2.2.2.2.2.2.1)),(22,(zI y.2.2.2.2.2.2.2.2.1))]),(hp 2 [(oC y.2.2.2.2.2.2.2.2.2.1),(.map y.2.2.2.2.2.2.2.2.2.2.1 y.2.2.2.2.2.2.2.2.2.2.2)]))) (fun y=>m4_4 pu n (l4_2 pu n w0) y.1 y.2.1 y.2.2.1 y.2.2.2.1 y.2.2.2.2.1 y.2.2.2.2.2.1 y.2.2.2.2.2.2.1 y.2.2.2.2.2.2.2.1 y.2.2.2.2.2.2.2.2.1 y.2.2.2.2.2.2.2.2.2.1 y.2.2.2.2.2.2.2.2.2.2.1 y.2.2.2.2.2.2.2.2.2.2.2) ?_ ?_
    ·rintro ⟨s11, n3, c3, z7, s12, s13, s14, z8, z9, q4, e3, k5⟩ hm
     unfold m4_4 at hm
     refine .then ?_
     replace hm:=oo_inv hm;obtain ⟨v1,h9,hm⟩:=hm
     replace hm:=inv_toSl hm;obtain ⟨s15,rfl,hm⟩:=hm
     replace hm:=oo_inv hm;obtain ⟨v2,h10,hm⟩:=hm
     replace hm:=inv_toI hm;obtain ⟨x0,rfl,hm⟩:=hm
     replace hm:=oo_inv hm;obtain ⟨r0,h12,hm⟩:=hm
     refine .reg (eC 2 ((oo (pu 15 [Sl.v 1 s13]) none fun v=>some (v,(hp 2 [oC q4,(.map e3 k5)])))) (call_eq h9) (eD ((oo (pu 18 [Sl.v 1 s15]) none fun v=>some (v,(hp 2 [oC q4,(.map e3 k5)])))) (call_eq h10) (eD (done (oo (findE (zI x0) e3 0) none fun r=>oo r (some (AHeap.set (hp 2 [oC q4,(.map e3 k5)]) 1 (.map (appL e3 [⟨zI x0,zB true,k5⟩]) (k5 + 1)))) fun p=>pp p fun j _=>some (AHeap.set (hp 2 [oC q4,(.map e3 k5)]) 1 (.map (modL (fun e=>⟨zI x0,zB true,e.born⟩) j e3) k5))) undef) (upd_eq (H2:=(hp 2 [oC q4,(.map (updE (zI x0) (zB true) k5 e3 r0) (updC k5 r0))])) h12) (eE)))) ?_
     replace hm:=bb_inv hm;obtain ⟨h13,hm⟩:=hm
     replace hm:=bb_inv hm;obtain ⟨h14,hm⟩:=hm
     refine .ghs (fr 100 [(3,Sl.v 1 s11),(4,sc 0 0 1 n3 c3),(5,zI z7),(6,(.map (some 1))),(7,Sl.v 1 s12),(9,Sl.v 1 s13),(20,Sl.v 1 s14),(21,zI z8),(22,zI z9)]) (hp 2 [oC q4,(.map (updE (zI x0) (zB true) k5 e3 r0) (updC k5 r0))]) (.k [0,1] [] [.tmp 4 false,.tmp 6 false] [3,4,5,6,7,9,20,21,22] ⟨trF h13,trF h14,trivial⟩) ?_
     refine .then ?_
     replace hm:=bb_inv hm;obtain ⟨h15,hm⟩:=hm
     replace hm:=oo_inv hm;obtain ⟨v3,h16,hm⟩:=hm
     replace hm:=inv_toI hm;obtain ⟨x1,rfl,hm⟩:=hm
     refine .reg (eC 1 (keep (hp 2 [oC q4,(.map (updE (zI x0) (zB true) k5 e3 r0) (updC k5 r0))]) (bb (an (Nat.blt 0 (Sl.n s13)) true) (some (fpV (0 * 1) (Sl.cs s13))) none)) (keep_bb h15) (eD (keep (hp 2 [oC q4,(.map (updE (zI x0) (zB true) k5 e3 r0) (updC k5 r0))]) (nthL (Sl.cs s13) (0 * 1))) (keep_eq h16) (eE))) ?_
     refine .ghs (fr 100 [(3,Sl.v 1 s11),(4,sc 0 0 1 n3 c3),(5,zI z7),(6,(.map (some 1))),(7,Sl.v 1 s12),(20,Sl.v 1 s14),(21,zI z8),(22,zI z9),(44,(zB (ilt x1 (wrapF .i64 (Int.sub (Int.ofNat (Sl.n s13)) (1:Int))))))]) (hp 2 [oC q4,(.map (updE (zI x0) (zB true) k5 e3 r0) (updC k5 r0))]) (.k [0,1] [] [.tmp 4 false,.tmp 6 false] [3,4,5,6,7,20,21,22,44] ⟨trF h13,trF h14,trivial⟩) ?_
     replace hm:=bb_cases hm;rcases hm with ⟨h17,hm⟩ | ⟨h17,hm⟩
     ·refine .ifT (ilt x1 (wrapF .i64 (Int.sub (Int.ofNat (Sl.n s13)) (1 : Int)))) (by kernel_rfl) h17 ?_
      refine .rK ?_
      exact ⟨(s11,n3,c3,(wrapF .i64 (Int.add z7 (1:Int))),s12,s14,z8,z9,q4,(updE (zI x0) (zB true) k5 e3 r0),(updC k5 r0)),hm,(.k [0,1] [] [.tmp 4 false,.tmp 6 false] [3,4,5,6,7,20,21,22] ⟨trF h13,trF h14,trivial⟩)⟩
     ·refine .ifF (ilt x1 (wrapF .i64 (Int.sub (Int.ofNat (Sl.n s13)) (1 : Int)))) (by kernel_rfl) h17 ?_
      refine .skip ?_
      exact ⟨(s11,n3,c3,z7,s12,s14,z8,z9,q4,(updE (zI x0) (zB true) k5 e3 r0),(updC k5 r0)),hm,(.k [0,1] [] [.tmp 4 false,.tmp 6 false] [3,4,5,6,7,20,21,22] ⟨trF h13,trF h14,trivial⟩)⟩
    ·refine .then ?_
     replace hm:=oo_inv hm;obtain ⟨v4,h18,hm⟩:=hm
     replace hm:=inv_toSl hm;obtain ⟨s16,rfl,hm⟩:=hm
     replace hm:=oo_inv hm;obtain ⟨v5,h19,hm⟩:=hm
     replace hm:=inv_vBool hm;obtain ⟨b0,rfl,hm⟩:=hm
     refine .reg (eC 1 ((oo (pu 15 [Sl.v 1 s10]) none fun v=>some (v,(hp 2 [oC q2,(.map e1 k2)])))) (call_eq h18) (eC 1 ((oo (pu 14 [Sl.v 1 s16,Sl.v 1 s3]) none fun v=>some (v,(hp 2 [oC q2,(.map e1 k2)])))) (call_eq h19) (eE))) ?_
     refine .ghs (fr 100 [(3,Sl.v 1 s3),(4,sc 0 0 1 n1 c1),(5,zI z1),(6,(.map (some 1))),(7,Sl.v 1 s4),(9,Sl.v 1 s10),(20,Sl.v 1 s5),(21,zI z2),(22,(zI (Int.ofNat k4))),(29,zB b0)]) (hp 2 [oC q2,(.map e1 k2)]) (.k [0,1] [] [.tmp 4 false,.tmp 6 false] [3,4,5,6,7,9,20,21,22,29] ⟨trF h0,trF h1,trivial⟩) ?_
     replace hm:=bb_cases hm;rcases hm with ⟨h20,hm⟩ | ⟨h20,hm⟩
     ·refine .ifT b0 (by kernel_rfl) h20 ?_
      replace hm:=bb_inv hm;obtain ⟨h22,hm⟩:=hm
      refine .reg (eC 3 (growD 1 24 n1 c1 1 0 q2 [Sl.v 1 s10] [] (hp 3 [oC q2,(.map e1 k2),(oC [Sl.v 1 s10])])) (growD_eq h22) (eE)) ?_
      replace hm:=bb_inv hm;obtain ⟨h23,hm⟩:=hm
      exact ⟨(s3,(n1 + 1),(d2 (n1 + 1)),z1,s4,s10,s5,z2,(Int.ofNat k4),(appL (dropL 0 q2) [Sl.v 1 s10]),e1,k2),hm,(.k [3,1] [] [.tmp 4 false,.tmp 6 false] [3,4,5,6,7,9,20,21,22] ⟨trF h23,trF h1,trivial⟩)⟩
     ·refine .ifF b0 (by kernel_rfl) h20 ?_
      refine .skip ?_
      exact ⟨(s3,n1,c1,z1,s4,s10,s5,z2,(Int.ofNat k4),q2,e1,k2),hm,(.k [0,1] [] [.tmp 4 false,.tmp 6 false] [3,4,5,6,7,9,20,21,22] ⟨trF h0,trF h1,trivial⟩)⟩
  ·refine .ifF (ilt z3 z2) (by kernel_rfl) h2 ?_
   refine .exit ?_
   exact ⟨(s3,n1,c1,z1,s4,q2,e1,k2),hm,(.k [0,1] [] [.tmp 4 false,.tmp 6 false] [3,4,5,6,7] ⟨trF h0,trF h1,trivial⟩)⟩
def m13_0 (pu:PureF) (n:Nat) (z0:Int):OV:=
 (some (.int .i64 z0))
def b13_1 (pu:PureF) (n:Nat) (ih0:Int→Sl→Int→Int→OV) (z0:Int) (s0:Sl) (z1 z2:Int):OV:=
 (bb (ilt z2 z1) (oo (toN z2) none fun k1=>(bb (an (Nat.blt k1 (Sl.n s0)) true) (oo (nthL (Sl.cs s0) (k1 * 1)) none fun v0=>(oo (toI .i64 v0) none fun x0=>(ih0 (wrapF .i64 (Int.add z0 x0)) s0 z1 (wrapF .i64 (Int.add (Int.ofNat k1) (1:Int)))))) none)) (m13_0 pu n z0))
def l13_1 (pu:PureF) (n w:Nat):Int→Sl→Int→Int→OV:=
 Nat.rec (motive:=fun _=>Int→Sl→Int→Int→OV) (fun _ _ _ _=>none) (fun _ ih0=>b13_1 pu n ih0) w
def m13_ (pu:PureF) (n:Nat) (s0:Sl):OV:=
 (l13_1 pu n n (0:Int) s0 (Int.ofNat (Sl.n s0)) (0:Int))
def m13 (pu:PureF) (n:Nat) (args:LV):OV:=
 (ll args none fun a0 args=>(ll args (oo (toSl 1 a0) none fun s0=>(m13_ pu n s0)) fun _ _=>none))
theorem w13_0 (pu:PureF) (n:Nat) (z0:Int) {v:Value} (hm:m13_0 pu n z0 = some v):Run tt (callP tabs isP pu (inl pu)) 0 c13_17 (fr 17 [(3,zI z0)]) (hp 0 []) (Fin tt 0 [.tmp 2] v):=by
 unfold m13_0 at hm
 refine .then (.rK ?_)
 refine .ghs (fr 17 [(2,zI z0)]) (hp 0 []) (.k0 [] [] [2]) ?_
 refine .ret ?_
 exact fin_ret (zI z0) (by kernel_rfl) (by kernel_rfl) hm
theorem r13 {call:CallF} (pu:PureF) (n:Nat) (hcall:call = callP tabs isP pu (inl pu)) {args:LV} {v:Value} (hm:m13 pu n args = some v) (_:∀ x ∈ args,closed2 x = true):args.length≤17∧Run tt call 0 c13_20 (Fr.made 17 args) (pureHeap tabs) (Fin tt 0 [.tmp 2] v):=by
 subst hcall
 unfold m13 at hm
 replace hm:=ll_uncons hm;obtain ⟨a0,args_0,rfl,hm⟩:=hm
 replace hm:=ll_end hm;obtain ⟨rfl,hm⟩:=hm
 replace hm:=inv_toSl hm;obtain ⟨s0,rfl,hm⟩:=hm
 unfold m13_ at hm
 refine ⟨by simp,?_⟩
 refine .same (F':=(fr 17 [(0,Sl.v 1 s0)])) (H':=(hp 0 [])) (by kernel_rfl) (by kernel_rfl) ?_
 refine .then (.rK ?_)
 refine .ghs (fr 17 [(0,Sl.v 1 s0)]) (hp 0 []) (.k0 [] [] [0]) ?_
 refine .then (.rK ?_)
 refine .ghs (fr 17 [(0,Sl.v 1 s0),(3,(zI (0:Int)))]) (hp 0 []) (.k0 [] [] [0,3]) ?_
 refine .join (v:=v) (fun y:Int=>((fr 17 [(3,zI y)]),(hp 0 []))) (fun y=>m13_0 pu n y) ?_ ?_
 ·rintro z0 hm
  exact w13_0 pu n z0 hm
 ·refine .then (.rK ?_)
  refine .ghs (fr 17 [(3,(zI (0:Int))),(6,Sl.v 1 s0),(7,(zI (Int.ofNat (Sl.n s0)))),(8,(zI (0:Int)))]) (hp 0 []) (.k0 [] [] [3,6,7,8]) ?_
  refine .block ?_
  refine .loopM (v:=v) (fun y:Int×Sl×Int×Int=>((fr 17 [(3,(zI y.1)),(6,(Sl.v 1 y.2.1)),(7,(zI y.2.2.1)),(8,(zI y.2.2.2))]),(hp 0 []))) (fun w y=>l13_1 pu n w y.1 y.2.1 y.2.2.1 y.2.2.2) n ⟨((0:Int),s0,(Int.ofNat (Sl.n s0)),(0:Int)),hm,(.k0 [] [] [3,6,7,8])⟩ (fun _=>rfl) ?_
  rintro w0 ⟨z1,s1,z2,z3⟩ hm
  replace hm:b13_1 pu n (l13_1 pu n w0) z1 s1 z2 z3 = some v:=hm
  unfold b13_1 at hm
  refine .then (.rK ?_)
  refine .ghs (fr 17 [(3,zI z1),(6,Sl.v 1 s1),(7,zI z2),(8,zI z3),(9,(zB (ilt z3 z2)))]) (hp 0 []) (.k0 [] [] [3,6,7,8,9]) ?_
  refine .then ?_
  replace hm:=bb_cases hm;rcases hm with ⟨h0,hm⟩ | ⟨h0,hm⟩
  ·refine .ifT (ilt z3 z2) (by kernel_rfl) h0 ?_
   refine .skip ?_
   refine .ghs (fr 17 [(3,zI z1),(6,Sl.v 1 s1),(7,zI z2),(8,zI z3)]) (hp 0 []) (.k0 [] [] [3,6,7,8]) ?_
   refine .then ?_
   refine .block ?_
   refine .then ?_
   replace hm:=oo_inv hm;obtain ⟨k1,h1,hm⟩:=hm
   obtain rfl:=toN_some h1
   replace hm:=bb_inv hm;obtain ⟨h2,hm⟩:=hm
   replace hm:=oo_inv hm;obtain ⟨v0,h3,hm⟩:=hm
   replace hm:=inv_toI hm;obtain ⟨x0,rfl,hm⟩:=hm
   refine .reg (eD (keep (hp 0 []) (bb (an (Nat.blt k1 (Sl.n s1)) true) (some (fpV (k1 * 1) (Sl.cs s1))) none)) (keep_bb h2) (eD (keep (hp 0 []) (nthL (Sl.cs s1) (k1 * 1))) (keep_eq h3) (eE))) ?_
   refine .ghs (fr 17 [(3,zI z1),(5,zI x0),(6,Sl.v 1 s1),(7,zI z2),(8,(zI (Int.ofNat k1)))]) (hp 0 []) (.k0 [] [] [3,5,6,7,8]) ?_
   refine .rK ?_
   refine .ghs (fr 17 [(3,(zI (wrapF .i64 (Int.add z1 x0)))),(6,Sl.v 1 s1),(7,zI z2),(8,(zI (Int.ofNat k1)))]) (hp 0 []) (.k0 [] [] [3,6,7,8]) ?_
   refine .rK ?_
   exact ⟨((wrapF .i64 (Int.add z1 x0)),s1,z2,(wrapF .i64 (Int.add (Int.ofNat k1) (1:Int)))),hm,(.k0 [] [] [3,6,7,8])⟩
  ·refine .ifF (ilt z3 z2) (by kernel_rfl) h0 ?_
   refine .exit ?_
   exact ⟨z1,hm,(.k0 [] [] [3])⟩
def m14_0 (pu:PureF) (n:Nat):OV:=
 (some (.bool true))
def b14_1 (pu:PureF) (n:Nat) (ih0:Sl→Sl→Int→OV) (s0 s1:Sl) (z0:Int):OV:=
 (bb (ilt z0 (Int.ofNat (Sl.n s0))) (oo (toN z0) none fun k1=>(bb (an (Nat.blt k1 (Sl.n s0)) true) (oo (nthL (Sl.cs s0) (k1 * 1)) none fun v0=>(oo (toI .i64 v0) none fun x0=>(bb (an (Nat.blt k1 (Sl.n s1)) true) (oo (nthL (Sl.cs s1) (k1 * 1)) none fun v1=>(oo (toI .i64 v1) none fun x1=>(bb (nt (ieq x0 x1)) (some (.bool false)) (ih0 s0 s1 (wrapF .i64 (Int.add (Int.ofNat k1) (1:Int))))))) none))) none)) (m14_0 pu n))
def l14_1 (pu:PureF) (n w:Nat):Sl→Sl→Int→OV:=
 Nat.rec (motive:=fun _=>Sl→Sl→Int→OV) (fun _ _ _=>none) (fun _ ih0=>b14_1 pu n ih0) w
def m14_ (pu:PureF) (n:Nat) (s0 s1:Sl):OV:=
 (bb (nt (ieq (Int.ofNat (Sl.n s0)) (Int.ofNat (Sl.n s1)))) (some (.bool false)) (l14_1 pu n n s0 s1 (0:Int)))
def m14 (pu:PureF) (n:Nat) (args:LV):OV:=
 (ll args none fun a0 args=>(ll args none fun a1 args=>(ll args (oo (toSl 1 a0) none fun s0=>(oo (toSl 1 a1) none fun s1=>(m14_ pu n s0 s1))) fun _ _=>none)))
theorem w14_0 (pu:PureF) (n:Nat) {v:Value} (hm:m14_0 pu n = some v):Run tt (callP tabs isP pu (inl pu)) 0 c14_23 (fr 26 []) (hp 0 []) (Fin tt 0 [.tmp 4] v):=by
 unfold m14_0 at hm
 refine .then (.rK ?_)
 refine .ghs (fr 26 [(4,zB true)]) (hp 0 []) (.k0 [] [] [4]) ?_
 refine .ret ?_
 exact fin_ret (zB true) (by kernel_rfl) (by kernel_rfl) hm
theorem r14 {call:CallF} (pu:PureF) (n:Nat) (hcall:call = callP tabs isP pu (inl pu)) {args:LV} {v:Value} (hm:m14 pu n args = some v) (_:∀ x ∈ args,closed2 x = true):args.length≤26∧Run tt call 0 c14_26 (Fr.made 26 args) (pureHeap tabs) (Fin tt 0 [.tmp 4] v):=by
 subst hcall
 unfold m14 at hm
 replace hm:=ll_uncons hm;obtain ⟨a0,args_0,rfl,hm⟩:=hm
 replace hm:=ll_uncons hm;obtain ⟨a1,args_1,rfl,hm⟩:=hm
 replace hm:=ll_end hm;obtain ⟨rfl,hm⟩:=hm
 replace hm:=inv_toSl hm;obtain ⟨s0,rfl,hm⟩:=hm
 replace hm:=inv_toSl hm;obtain ⟨s1,rfl,hm⟩:=hm
 unfold m14_ at hm
 refine ⟨by simp,?_⟩
 refine .same (F':=(fr 26 [(0,Sl.v 1 s0),(1,Sl.v 1 s1)])) (H':=(hp 0 [])) (by kernel_rfl) (by kernel_rfl) ?_
 refine .then (.rK ?_)
 refine .ghs (fr 26 [(0,Sl.v 1 s0),(1,Sl.v 1 s1)]) (hp 0 []) (.k0 [] [] [0,1]) ?_
 refine .then ?_
 refine .then (.rK ?_)
 refine .ghs (fr 26 [(0,Sl.v 1 s0),(1,Sl.v 1 s1),(10,(zB (nt (ieq (Int.ofNat (Sl.n s0)) (Int.ofNat (Sl.n s1))))))]) (hp 0 []) (.k0 [] [] [0,1,10]) ?_
 replace hm:=bb_cases hm;rcases hm with ⟨h0,hm⟩ | ⟨h0,hm⟩
 ·refine .ifT (nt (ieq (Int.ofNat (Sl.n s0)) (Int.ofNat (Sl.n s1)))) (by kernel_rfl) h0 ?_
  refine .then (.rK ?_)
  refine .ghs (fr 26 [(4,zB false)]) (hp 0 []) (.k0 [] [] [4]) ?_
  refine .ret ?_
  exact fin_ret (zB false) (by kernel_rfl) (by kernel_rfl) hm
 ·refine .ifF (nt (ieq (Int.ofNat (Sl.n s0)) (Int.ofNat (Sl.n s1)))) (by kernel_rfl) h0 ?_
  refine .skip ?_
  refine .ghs (fr 26 [(0,Sl.v 1 s0),(1,Sl.v 1 s1)]) (hp 0 []) (.k0 [] [] [0,1]) ?_
  refine .join (v:=v) (fun y:Unit=>((fr 26 []),(hp 0 []))) (fun y=>m14_0 pu n) ?_ ?_
  ·rintro _ hm
   exact w14_0 pu n hm
  ·refine .then (.rK ?_)
   refine .ghs (fr 26 [(0,Sl.v 1 s0),(1,Sl.v 1 s1),(5,(zI (0:Int)))]) (hp 0 []) (.k0 [] [] [0,1,5]) ?_
   refine .block ?_
   refine .loopM (v:=v) (fun y:Sl×Sl×Int=>((fr 26 [(0,(Sl.v 1 y.1)),(1,(Sl.v 1 y.2.1)),(5,(zI y.2.2))]),(hp 0 []))) (fun w y=>l14_1 pu n w y.1 y.2.1 y.2.2) n ⟨(s0,s1,(0:Int)),hm,(.k0 [] [] [0,1,5])⟩ (fun _=>rfl) ?_
   rintro w0 ⟨s2,s3,z0⟩ hm
   replace hm:b14_1 pu n (l14_1 pu n w0) s2 s3 z0 = some v:=hm
   unfold b14_1 at hm
   refine .then ?_
   refine .then (.rK ?_)
   refine .ghs (fr 26 [(0,Sl.v 1 s2),(1,Sl.v 1 s3),(5,zI z0),(14,(zB (ilt z0 (Int.ofNat (Sl.n s2)))))]) (hp 0 []) (.k0 [] [] [0,1,5,14]) ?_
   replace hm:=bb_cases hm;rcases hm with ⟨h1,hm⟩ | ⟨h1,hm⟩
   ·refine .ifT (ilt z0 (Int.ofNat (Sl.n s2))) (by kernel_rfl) h1 ?_
    refine .skip ?_
    refine .ghs (fr 26 [(0,Sl.v 1 s2),(1,Sl.v 1 s3),(5,zI z0)]) (hp 0 []) (.k0 [] [] [0,1,5]) ?_
    refine .then ?_
    refine .block ?_
    refine .then ?_
    replace hm:=oo_inv hm;obtain ⟨k1,h2,hm⟩:=hm
    obtain rfl:=toN_some h2
    replace hm:=bb_inv hm;obtain ⟨h3,hm⟩:=hm
    replace hm:=oo_inv hm;obtain ⟨v0,h4,hm⟩:=hm
    replace hm:=inv_toI hm;obtain ⟨x0,rfl,hm⟩:=hm
    replace hm:=bb_inv hm;obtain ⟨h5,hm⟩:=hm
    replace hm:=oo_inv hm;obtain ⟨v1,h6,hm⟩:=hm
    replace hm:=inv_toI hm;obtain ⟨x1,rfl,hm⟩:=hm
    refine .reg (eC 2 (keep (hp 0 []) (bb (an (Nat.blt k1 (Sl.n s2)) true) (some (fpV (k1 * 1) (Sl.cs s2))) none)) (keep_bb h3) (eD (keep (hp 0 []) (nthL (Sl.cs s2) (k1 * 1))) (keep_eq h4) (eC 2 (keep (hp 0 []) (bb (an (Nat.blt k1 (Sl.n s3)) true) (some (fpV (k1 * 1) (Sl.cs s3))) none)) (keep_bb h5) (eD (keep (hp 0 []) (nthL (Sl.cs s3) (k1 * 1))) (keep_eq h6) (eE))))) ?_
    refine .ghs (fr 26 [(0,Sl.v 1 s2),(1,Sl.v 1 s3),(5,(zI (Int.ofNat k1))),(25,(zB (nt (ieq x0 x1))))]) (hp 0 []) (.k0 [] [] [0,1,5,25]) ?_
    replace hm:=bb_cases hm;rcases hm with ⟨h7,hm⟩ | ⟨h7,hm⟩
    ·refine .ifT (nt (ieq x0 x1)) (by kernel_rfl) h7 ?_
     refine .then (.rK ?_)
     refine .ghs (fr 26 [(4,zB false)]) (hp 0 []) (.k0 [] [] [4]) ?_
     refine .ret ?_
     exact fin_ret (zB false) (by kernel_rfl) (by kernel_rfl) hm
    ·refine .ifF (nt (ieq x0 x1)) (by kernel_rfl) h7 ?_
     refine .skip ?_
     refine .ghs (fr 26 [(0,Sl.v 1 s2),(1,Sl.v 1 s3),(5,(zI (Int.ofNat k1)))]) (hp 0 []) (.k0 [] [] [0,1,5]) ?_
     refine .rK ?_
     exact ⟨(s2,s3,(wrapF .i64 (Int.add (Int.ofNat k1) (1:Int)))),hm,(.k0 [] [] [0,1,5])⟩
   ·refine .ifF (ilt z0 (Int.ofNat (Sl.n s2))) (by kernel_rfl) h1 ?_
    refine .exit ?_
    exact ⟨(),hm,(.k0 [] [] [])⟩
def m15_0 (pu:PureF) (n n0 c0:Nat) (q1:LV):OV:=
 (oo (mapO (toI .i64) q1) none fun z0=>(bb (wholeC 0 1 (len q1) n0) (bb (allL closed1 (mapL I64 (srtZ z0))) (bb (orr (Nat.ble 2 c0) (nilL (mapL I64 (srtZ z0)))) (bb (allL closed1 (mapL I64 (srtZ z0))) (oo (pu 10440 [(.slice (some ⟨0,0,some 1⟩) n0 c0),(.agg ⟨(mapL I64 (srtZ z0))⟩)]) none fun v0=>(oo (vTup v0) none fun l0=>(ll l0 none fun v1 l0=>(ll l0 none fun v2 l0=>(ll l0 (bb (isNoV v1) (oo (vAgg v2) none fun q2=>(bb (allL closed1 q2) (bb (allL closed1 q2) (bb (an (Nat.ble (0 + n0 * 1) (len q2)) (allL closed1 (takeL (n0 * 1) (dropL 0 q2)))) (some (Sl.v 1 (Sl.mk n0 0 (takeL (n0 * 1) (dropL 0 q2))))) none) none) none)) none) fun _ _=>none))))) none) none) none) none))
def m15_2 (pu:PureF) (n:Nat) (ih0:Nat→Nat→Sl→Int→Int→LV→OV) (n0 c0:Nat) (s0:Sl) (z0 z1:Int) (q1:LV):OV:=
 (bb (allL closed1 q1) (ih0 n0 c0 s0 z0 (wrapF .i64 (Int.add z1 (1:Int))) q1) none)
def b15_1 (pu:PureF) (n:Nat) (ih0:Nat→Nat→Sl→Int→Int→LV→OV) (n0 c0:Nat) (s0:Sl) (z0 z1:Int) (q1:LV):OV:=
 (bb (allL closed1 q1) (bb (ilt z1 z0) (oo (toN z1) none fun k1=>(bb (an (Nat.blt k1 (Sl.n s0)) true) (oo (nthL (Sl.cs s0) (k1 * 1)) none fun v0=>(oo (toI .i64 v0) none fun x0=>(bb (ilt (1:Int) x0) (bb (growC 1 8 n0 c0 1 q1) (bb (allL closed1 (appL (dropL 0 q1) [(.int .i64 (wrapF .i64 (Int.sub x0 (1:Int))))])) (m15_2 pu n ih0 (n0 + 1) (2 * (n0 + 1) + bb false 1 0) s0 z0 (Int.ofNat k1) (appL (dropL 0 q1) [(.int .i64 (wrapF .i64 (Int.sub x0 (1:Int))))])) none) none) (m15_2 pu n ih0 n0 c0 s0 z0 (Int.ofNat k1) q1)))) none)) (m15_0 pu n n0 c0 q1)) none)
def l15_1 (pu:PureF) (n w:Nat):Nat→Nat→Sl→Int→Int→LV→OV:=
 Nat.rec (motive:=fun _=>Nat→Nat→Sl→Int→Int→LV→OV) (fun _ _ _ _ _ _=>none) (fun _ ih0=>b15_1 pu n ih0) w
def m15_ (pu:PureF) (n:Nat) (s0:Sl):OV:=
 (l15_1 pu n n 1 2 s0 (Int.ofNat (Sl.n s0)) (0:Int) ([(.int .i64 (Int.ofNat (Sl.n s0)))]:LV))
def m15 (pu:PureF) (n:Nat) (args:LV):OV:=
 (ll args none fun a0 args=>(ll args (oo (toSl 1 a0) none fun s0=>(m15_ pu n s0)) fun _ _=>none))
theorem w15_0 (pu:PureF) (n n0 c0:Nat) (q1:LV) {v:Value} (hm:m15_0 pu n n0 c0 q1 = some v):Run tt (callP tabs isP pu (inl pu)) 0 c15_24 (fr 29 [(3,sc 0 0 1 n0 c0)]) (hp 1 [oC q1]) (Fin tt 0 [.tmp 2] v):=by
 unfold m15_0 at hm
 refine .then ?_
 replace hm:=oo_inv hm;obtain ⟨z0,h0,hm⟩:=hm
 replace hm:=bb_inv hm;obtain ⟨h1,hm⟩:=hm
 refine .reg (eC 1 (sortF [sc 0 0 1 n0 c0] (hp 1 [oC q1])) (sortF_eq (x:=(sc 0 0 1 n0 c0)) (H:=(hp 1 [oC q1])) (id:=0) (ln:=n0) (c2:=c0) (xs:=q1) (anc:=[]) (by kernel_rfl) (by kernel_rfl) h0 h1) (eE)) ?_
 replace hm:=bb_inv hm;obtain ⟨h2,hm⟩:=hm
 refine .ghs (fr 29 [(3,sc 0 0 1 n0 c0)]) (hp 1 [(oC (mapL I64 (srtZ z0)))]) (.k [0] [] [.tmp 3 false] [3] ⟨trF h2,trivial⟩) ?_
 refine .then ?_
 replace hm:=bb_inv hm;obtain ⟨h3,hm⟩:=hm
 replace hm:=bb_inv hm;obtain ⟨h4,hm⟩:=hm
 replace hm:=oo_inv hm;obtain ⟨v0,h5,hm⟩:=hm
 replace hm:=inv_vTup hm;obtain ⟨l0,rfl,hm⟩:=hm
 replace hm:=ll_uncons hm;obtain ⟨v1,l856_0,rfl,hm⟩:=hm
 replace hm:=ll_uncons hm;obtain ⟨v2,l856_1,rfl,hm⟩:=hm
 replace hm:=ll_end hm;obtain ⟨rfl,hm⟩:=hm
 replace hm:=bb_inv hm;obtain ⟨h6,hm⟩:=hm
 obtain rfl:=isNoV_ok h6
 replace hm:=inv_vAgg hm;obtain ⟨q2,rfl,hm⟩:=hm
 replace hm:=bb_inv hm;obtain ⟨h7,hm⟩:=hm
 refine .reg (eC 1 (objG tabs [[none]] 1 [.tmp 0 false] [false] (pu 10440) [sc 0 0 1 n0 c0] (hp 1 [(oC (mapL I64 (srtZ z0)))])) (objG_eq (as:=[sc 0 0 1 n0 c0]) (H1:=(hp 1 [(oC (mapL I64 (srtZ z0)))])) (gvAL_c (gvA_1 gv_n) gvAL_n) (objF_eq (H2:=(hp 1 [oC q2])) (v:=(.tuple ⟨[]⟩)) (v':=(.tuple ⟨[]⟩)) [some 0] [(false,some 0)] [(oC (mapL I64 (srtZ z0)))] [sc 0 0 1 n0 c0] [(.agg ⟨q2⟩)] [oC q2] [some 0] [(false,oC q2)] [oC q2] (trE (by kernel_rfl) (rootL h3 rfl)) (mapO_c (nO_list (anc:=[]) h4) mapO_n) (Eq.trans (by kernel_rfl) h5) (mapO_c rfl mapO_n) (mapO_c (bO_list h7) mapO_n))) (eE)) ?_
 replace hm:=bb_inv hm;obtain ⟨h8,hm⟩:=hm
 refine .ghs (fr 29 [(3,sc 0 0 1 n0 c0)]) (hp 1 [oC q2]) (.k [0] [] [.tmp 3 false] [3] ⟨trF h8,trivial⟩) ?_
 refine .then (.rK ?_)
 refine .ghs (fr 29 [(2,sc 0 0 1 n0 c0)]) (hp 1 [oC q2]) (.k [0] [] [.tmp 2 false] [2] ⟨trF h8,trivial⟩) ?_
 replace hm:=bb_inv hm;obtain ⟨h9,hm⟩:=hm
 refine .ghs (Fr.puts (fr 29 [(2,sc 0 0 1 n0 c0)]) [(2,(Sl.v 1 (Sl.mk n0 0 (takeL (n0 * 1) (dropL 0 q2)))))]) (hp 1 [.dead]) (.freezeC 0 2 1 (an (Nat.ble (0 + n0 * 1) (len q2)) (allL closed1 (takeL (n0 * 1) (dropL 0 q2)))) (F1:=(Fr.puts (fr 29 [(2,sc 0 0 1 n0 c0)]) [(2,(Sl.v 1 (Sl.mk n0 0 (takeL (n0 * 1) (dropL 0 q2)))))])) (H1:=(hp 1 [.dead])) (by kernel_rfl) (by kernel_rfl) h9 (GhS.id _ _)) ?_
 refine .ret ?_
 exact fin_ret (Sl.v 1 (Sl.mk n0 0 (takeL (n0 * 1) (dropL 0 q2)))) (by kernel_rfl) (by kernel_rfl) hm
theorem r15 {call:CallF} (pu:PureF) (n:Nat) (hcall:call = callP tabs isP pu (inl pu)) {args:LV} {v:Value} (hm:m15 pu n args = some v) (_:∀ x ∈ args,closed2 x = true):args.length≤29∧Run tt call 0 c15_27 (Fr.made 29 args) (pureHeap tabs) (Fin tt 0 [.tmp 2] v):=by
 subst hcall
 unfold m15 at hm
 replace hm:=ll_uncons hm;obtain ⟨a0,args_0,rfl,hm⟩:=hm
 replace hm:=ll_end hm;obtain ⟨rfl,hm⟩:=hm
 replace hm:=inv_toSl hm;obtain ⟨s0,rfl,hm⟩:=hm
 unfold m15_ at hm
 refine ⟨by simp,?_⟩
 refine .same (F':=(fr 29 [(0,Sl.v 1 s0)])) (H':=(hp 0 [])) (by kernel_rfl) (by kernel_rfl) ?_
 refine .then (.rK ?_)
 refine .ghs (fr 29 [(0,Sl.v 1 s0)]) (hp 0 []) (.k0 [] [] [0]) ?_
 refine .then ?_
 refine .reg (eC 3 (identF [sc 0 0 1 1 3] (hp 1 [(oC [(zI (Int.ofNat (Sl.n s0)))])])) rfl (eE)) ?_
 refine .ghs (fr 29 [(0,Sl.v 1 s0),(3,sc 0 0 1 1 3)]) (hp 1 [(oC [(zI (Int.ofNat (Sl.n s0)))])]) (.k0 [] [.tmp 3 false] [0,3]) ?_
 refine .join (v:=v) (fun y:Nat×Nat×LV=>((fr 29 [(3,(sc 0 0 1 y.1 y.2.1))]),(hp 1 [(oC y.2.2)]))) (fun y=>m15_0 pu n y.1 y.2.1 y.2.2) ?_ ?_
 ·rintro ⟨n0, c0, q1⟩ hm
  exact w15_0 pu n n0 c0 q1 hm
 ·refine .then (.rK ?_)
  refine .ghs (fr 29 [(3,sc 0 0 1 1 3),(10,Sl.v 1 s0),(11,(zI (Int.ofNat (Sl.n s0)))),(12,(zI (0:Int)))]) (hp 1 [(oC [(zI (Int.ofNat (Sl.n s0)))])]) (.k0 [] [.tmp 3 false] [3,10,11,12]) ?_
  refine .block ?_
  refine .loopM (v:=v) (fun y:Nat×Nat×Sl×Int×Int×LV=>((fr 29 [(3,(sc 0 0 1 y.1 y.2.1)),(10,(Sl.v 1 y.2.2.1)),(11,(zI y.2.2.2.1)),(12,(zI y.2.2.2.2.1))]),(hp 1 [(oC y.2.2.2.2.2)]))) (fun w y=>l15_1 pu n w y.1 y.2.1 y.2.2.1 y.2.2.2.1 y.2.2.2.2.1 y.2.2.2.2.2) n ⟨(1,2,s0,(Int.ofNat (Sl.n s0)),(0:Int),([(zI (Int.ofNat (Sl.n s0)))]:LV)),hm,(.weak 3 (sc 0 0 1 1 2) (v:=(sc 0 0 1 1 3)) (by kernel_rfl) (Weak.cap 0 0 1 1 1) (.k0 [] [.tmp 3 false] [3,10,11,12]))⟩ (fun _=>rfl) ?_
  rintro w0 ⟨n1,c1,s1,z0,z1,q2⟩ hm
  replace hm:b15_1 pu n (l15_1 pu n w0) n1 c1 s1 z0 z1 q2 = some v:=hm
  unfold b15_1 at hm
  refine .then (.rK ?_)
  replace hm:=bb_inv hm;obtain ⟨h0,hm⟩:=hm
  refine .ghs (fr 29 [(3,sc 0 0 1 n1 c1),(10,Sl.v 1 s1),(11,zI z0),(12,zI z1),(13,(zB (ilt z1 z0)))]) (hp 1 [oC q2]) (.k [0] [] [.tmp 3 false] [3,10,11,12,13] ⟨trF h0,trivial⟩) ?_
  refine .then ?_
  replace hm:=bb_cases hm;rcases hm with ⟨h1,hm⟩ | ⟨h1,hm⟩
  ·refine .ifT (ilt z1 z0) (by kernel_rfl) h1 ?_
   refine .skip ?_
   refine .ghs (fr 29 [(3,sc 0 0 1 n1 c1),(10,Sl.v 1 s1),(11,zI z0),(12,zI z1)]) (hp 1 [oC q2]) (.k [0] [] [.tmp 3 false] [3,10,11,12] ⟨trF h0,trivial⟩) ?_
   refine .join (v:=v) (fun y:Nat×Nat×Sl×Int×Int×LV=>((fr 29 [(3,(sc 0 0 1 y.1 y.2.1)),(10,(Sl.v 1 y.2.2.1)),(11,(zI y.2.2.2.1)),(12,(zI y.2.2.2.2.1))]),(hp 1 [(oC y.2.2.2.2.2)]))) (fun y=>m15_2 pu n (l15_1 pu n w0) y.1 y.2.1 y.2.2.1 y.2.2.2.1 y.2.2.2.2.1 y.2.2.2.2.2) ?_ ?_
   ·rintro ⟨n2, c2, s2, z2, z3, q3⟩ hm
    unfold m15_2 at hm
    refine .rK ?_
    replace hm:=bb_inv hm;obtain ⟨h2,hm⟩:=hm
    exact ⟨(n2,c2,s2,z2,(wrapF .i64 (Int.add z3 (1:Int))),q3),hm,(.k [0] [] [.tmp 3 false] [3,10,11,12] ⟨trF h2,trivial⟩)⟩
   ·refine .block ?_
    refine .then ?_
    replace hm:=oo_inv hm;obtain ⟨k1,h3,hm⟩:=hm
    obtain rfl:=toN_some h3
    replace hm:=bb_inv hm;obtain ⟨h4,hm⟩:=hm
    replace hm:=oo_inv hm;obtain ⟨v0,h5,hm⟩:=hm
    replace hm:=inv_toI hm;obtain ⟨x0,rfl,hm⟩:=hm
    refine .reg (eD (keep (hp 1 [oC q2]) (bb (an (Nat.blt k1 (Sl.n s1)) true) (some (fpV (k1 * 1) (Sl.cs s1))) none)) (keep_bb h4) (eD (keep (hp 1 [oC q2]) (nthL (Sl.cs s1) (k1 * 1))) (keep_eq h5) (eE))) ?_
    refine .ghs (fr 29 [(3,sc 0 0 1 n1 c1),(5,zI x0),(10,Sl.v 1 s1),(11,zI z0),(12,(zI (Int.ofNat k1)))]) (hp 1 [oC q2]) (.k [0] [] [.tmp 3 false] [3,5,10,11,12] ⟨trF h0,trivial⟩) ?_
    refine .then (.rK ?_)
    refine .ghs (fr 29 [(3,sc 0 0 1 n1 c1),(5,zI x0),(10,Sl.v 1 s1),(11,zI z0),(12,(zI (Int.ofNat k1))),(17,(zB (ilt (1:Int) x0)))]) (hp 1 [oC q2]) (.k [0] [] [.tmp 3 false] [3,5,10,11,12,17] ⟨trF h0,trivial⟩) ?_
    replace hm:=bb_cases hm;rcases hm with ⟨h6,hm⟩ | ⟨h6,hm⟩
    ·refine .ifT (ilt (1 : Int) x0) (by kernel_rfl) h6 ?_
     replace hm:=bb_inv hm;obtain ⟨h7,hm⟩:=hm
     refine .reg (eC 4 (growD 1 8 n1 c1 1 0 q2 [(zI (wrapF .i64 (Int.sub x0 (1:Int))))] [] (hp 2 [oC q2,(oC [(zI (wrapF .i64 (Int.sub x0 (1:Int))))])])) (growD_eq h7) (eE)) ?_
     replace hm:=bb_inv hm;obtain ⟨h8,hm⟩:=hm
     exact ⟨((n1 + 1),(d2 (n1 + 1)),s1,z0,(Int.ofNat k1),(appL (dropL 0 q2) [(zI (wrapF .i64 (Int.sub x0 (1:Int))))])),hm,(.k [2] [] [.tmp 3 false] [3,10,11,12] ⟨trF h8,trivial⟩)⟩
    ·refine .ifF (ilt (1 : Int) x0) (by kernel_rfl) h6 ?_
     refine .skip ?_
     exact ⟨(n1,c1,s1,z0,(Int.ofNat k1),q2),hm,(.k [0] [] [.tmp 3 false] [3,10,11,12] ⟨trF h0,trivial⟩)⟩
  ·refine .ifF (ilt z1 z0) (by kernel_rfl) h1 ?_
   refine .exit ?_
   exact ⟨(n1,c1,q2),hm,(.k [0] [] [.tmp 3 false] [3] ⟨trF h0,trivial⟩)⟩
def m17_1 (pu:PureF) (n n0 c0:Nat) (q1:LV):OV:=
 (oo (mapO (toI .i64) q1) none fun z0=>(bb (wholeC 0 1 (len q1) n0) (bb (allL closed1 (mapL I64 (srtZ z0))) (bb (orr (Nat.ble 2 c0) (nilL (mapL I64 (srtZ z0)))) (bb (allL closed1 (mapL I64 (srtZ z0))) (oo (pu 10440 [(.slice (some ⟨0,0,some 1⟩) n0 c0),(.agg ⟨(mapL I64 (srtZ z0))⟩)]) none fun v0=>(oo (vTup v0) none fun l0=>(ll l0 none fun v1 l0=>(ll l0 none fun v2 l0=>(ll l0 (bb (isNoV v1) (oo (vAgg v2) none fun q2=>(bb (allL closed1 q2) (bb (allL closed1 q2) (bb (an (Nat.ble (0 + n0 * 1) (len q2)) (allL closed1 (takeL (n0 * 1) (dropL 0 q2)))) (some (Sl.v 1 (Sl.mk n0 0 (takeL (n0 * 1) (dropL 0 q2))))) none) none) none)) none) fun _ _=>none))))) none) none) none) none))
def m17_0 (pu:PureF) (n n0 c0:Nat) (q1:LV):OV:=
 (bb (allL closed1 q1) (bb (ieq (Int.ofNat n0) (0:Int)) (m17_1 pu n 1 3 ([(.int .i64 (1:Int))]:LV)) (m17_1 pu n n0 c0 q1)) none)
def b17_2 (pu:PureF) (n:Nat) (ih0:Nat→Nat→Int→Sl→Int→Int→LV→OV) (n0 c0:Nat) (z0:Int) (s0:Sl) (z1 z2:Int) (q1:LV):OV:=
 (bb (allL closed1 q1) (bb (ilt z2 z1) (oo (toN z2) none fun k1=>(bb (an (Nat.blt k1 (Sl.n s0)) true) (oo (nthL (Sl.cs s0) (k1 * 1)) none fun v0=>(oo (toI .u8 v0) none fun x0=>(bb (ieq z0 (0:Int)) (m17_0 pu n n0 c0 q1) (bb (nt (ieq z0 (0:Int))) (bb (growC 1 8 n0 c0 1 q1) (bb (allL closed1 (appL (dropL 0 q1) [(.int .i64 (wrapF .i64 (Int.add (1:Int) (Int.tmod (wrapF .i64 x0) z0))))])) (ih0 (n0 + 1) (2 * (n0 + 1) + bb false 1 0) (wrapF .i64 (Int.sub z0 (wrapF .i64 (Int.add (1:Int) (Int.tmod (wrapF .i64 x0) z0))))) s0 z1 (wrapF .i64 (Int.add (Int.ofNat k1) (1:Int))) (appL (dropL 0 q1) [(.int .i64 (wrapF .i64 (Int.add (1:Int) (Int.tmod (wrapF .i64 x0) z0))))])) none) none) none)))) none)) (m17_0 pu n n0 c0 q1)) none)
def l17_2 (pu:PureF) (n w:Nat):Nat→Nat→Int→Sl→Int→Int→LV→OV:=
 Nat.rec (motive:=fun _=>Nat→Nat→Int→Sl→Int→Int→LV→OV) (fun _ _ _ _ _ _ _=>none) (fun _ ih0=>b17_2 pu n ih0) w
def m17_ (pu:PureF) (n:Nat) (s0:Sl) (x0:Int):OV:=
 (l17_2 pu n n 0 0 x0 s0 (Int.ofNat (Sl.n s0)) (0:Int) ([]:LV))
def m17 (pu:PureF) (n:Nat) (args:LV):OV:=
 (ll args none fun a0 args=>(ll args none fun a1 args=>(ll args (oo (toSl 1 a0) none fun s0=>(oo (toI .i64 a1) none fun x0=>(m17_ pu n s0 x0))) fun _ _=>none)))
theorem w17_1 (pu:PureF) (n n0 c0:Nat) (q1:LV) {v:Value} (hm:m17_1 pu n n0 c0 q1 = some v):Run tt (callP tabs isP pu (inl pu)) 0 c17_34 (fr 42 [(5,sc 0 0 1 n0 c0)]) (hp 1 [oC q1]) (Fin tt 0 [.tmp 4] v):=by
 unfold m17_1 at hm
 refine .then ?_
 replace hm:=oo_inv hm;obtain ⟨z0,h0,hm⟩:=hm
 replace hm:=bb_inv hm;obtain ⟨h1,hm⟩:=hm
 refine .reg (eC 1 (sortF [sc 0 0 1 n0 c0] (hp 1 [oC q1])) (sortF_eq (x:=(sc 0 0 1 n0 c0)) (H:=(hp 1 [oC q1])) (id:=0) (ln:=n0) (c2:=c0) (xs:=q1) (anc:=[]) (by kernel_rfl) (by kernel_rfl) h0 h1) (eE)) ?_
 replace hm:=bb_inv hm;obtain ⟨h2,hm⟩:=hm
 refine .ghs (fr 42 [(5,sc 0 0 1 n0 c0)]) (hp 1 [(oC (mapL I64 (srtZ z0)))]) (.k [0] [] [.tmp 5 false] [5] ⟨trF h2,trivial⟩) ?_
 refine .then ?_
 replace hm:=bb_inv hm;obtain ⟨h3,hm⟩:=hm
 replace hm:=bb_inv hm;obtain ⟨h4,hm⟩:=hm
 replace hm:=oo_inv hm;obtain ⟨v0,h5,hm⟩:=hm
 replace hm:=inv_vTup hm;obtain ⟨l0,rfl,hm⟩:=hm
 replace hm:=ll_uncons hm;obtain ⟨v1,l987_0,rfl,hm⟩:=hm
 replace hm:=ll_uncons hm;obtain ⟨v2,l987_1,rfl,hm⟩:=hm
 replace hm:=ll_end hm;obtain ⟨rfl,hm⟩:=hm
 replace hm:=bb_inv hm;obtain ⟨h6,hm⟩:=hm
 obtain rfl:=isNoV_ok h6
 replace hm:=inv_vAgg hm;obtain ⟨q2,rfl,hm⟩:=hm
 replace hm:=bb_inv hm;obtain ⟨h7,hm⟩:=hm
 refine .reg (eC 1 (objG tabs [[none]] 1 [.tmp 0 false] [false] (pu 10440) [sc 0 0 1 n0 c0] (hp 1 [(oC (mapL I64 (srtZ z0)))])) (objG_eq (as:=[sc 0 0 1 n0 c0]) (H1:=(hp 1 [(oC (mapL I64 (srtZ z0)))])) (gvAL_c (gvA_1 gv_n) gvAL_n) (objF_eq (H2:=(hp 1 [oC q2])) (v:=(.tuple ⟨[]⟩)) (v':=(.tuple ⟨[]⟩)) [some 0] [(false,some 0)] [(oC (mapL I64 (srtZ z0)))] [sc 0 0 1 n0 c0] [(.agg ⟨q2⟩)] [oC q2] [some 0] [(false,oC q2)] [oC q2] (trE (by kernel_rfl) (rootL h3 rfl)) (mapO_c (nO_list (anc:=[]) h4) mapO_n) (Eq.trans (by kernel_rfl) h5) (mapO_c rfl mapO_n) (mapO_c (bO_list h7) mapO_n))) (eE)) ?_
 replace hm:=bb_inv hm;obtain ⟨h8,hm⟩:=hm
 refine .ghs (fr 42 [(5,sc 0 0 1 n0 c0)]) (hp 1 [oC q2]) (.k [0] [] [.tmp 5 false] [5] ⟨trF h8,trivial⟩) ?_
 refine .then (.rK ?_)
 refine .ghs (fr 42 [(4,sc 0 0 1 n0 c0)]) (hp 1 [oC q2]) (.k [0] [] [.tmp 4 false] [4] ⟨trF h8,trivial⟩) ?_
 replace hm:=bb_inv hm;obtain ⟨h9,hm⟩:=hm
 refine .ghs (Fr.puts (fr 42 [(4,sc 0 0 1 n0 c0)]) [(4,(Sl.v 1 (Sl.mk n0 0 (takeL (n0 * 1) (dropL 0 q2)))))]) (hp 1 [.dead]) (.freezeC 0 4 1 (an (Nat.ble (0 + n0 * 1) (len q2)) (allL closed1 (takeL (n0 * 1) (dropL 0 q2)))) (F1:=(Fr.puts (fr 42 [(4,sc 0 0 1 n0 c0)]) [(4,(Sl.v 1 (Sl.mk n0 0 (takeL (n0 * 1) (dropL 0 q2)))))])) (H1:=(hp 1 [.dead])) (by kernel_rfl) (by kernel_rfl) h9 (GhS.id _ _)) ?_
 refine .ret ?_
 exact fin_ret (Sl.v 1 (Sl.mk n0 0 (takeL (n0 * 1) (dropL 0 q2)))) (by kernel_rfl) (by kernel_rfl) hm
theorem w17_0 (pu:PureF) (n n0 c0:Nat) (q1:LV) {v:Value} (hm:m17_0 pu n n0 c0 q1 = some v):Run tt (callP tabs isP pu (inl pu)) 0 c17_35 (fr 42 [(5,sc 0 0 1 n0 c0)]) (hp 1 [oC q1]) (Fin tt 0 [.tmp 4] v):=by
 unfold m17_0 at hm
 refine .join (v:=v) (fun y:Nat×Nat×LV=>((fr 42 [(5,(sc 0 0 1 y.1 y.2.1))]),(hp 1 [(oC y.2.2)]))) (fun y=>m17_1 pu n y.1 y.2.1 y.2.2) ?_ ?_
 ·rintro ⟨n1, c1, q2⟩ hm
  exact w17_1 pu n n1 c1 q2 hm
 ·refine .then (.rK ?_)
  replace hm:=bb_inv hm;obtain ⟨h0,hm⟩:=hm
  refine .ghs (fr 42 [(5,sc 0 0 1 n0 c0),(34,(zB (ieq (Int.ofNat n0) (0:Int))))]) (hp 1 [oC q1]) (.k [0] [] [.tmp 5 false] [5,34] ⟨trF h0,trivial⟩) ?_
  replace hm:=bb_cases hm;rcases hm with ⟨h1,hm⟩ | ⟨h1,hm⟩
  ·refine .ifT (ieq (Int.ofNat n0) (0 : Int)) (by kernel_rfl) h1 ?_
   refine .reg (eC 1 (identF [sc 1 0 1 1 3] (hp 2 [oC q1,(oC [(zI (1:Int))])])) rfl (eE)) ?_
   exact ⟨(1,3,([(zI (1:Int))]:LV)),hm,(.k0 [] [.tmp 5 false] [5])⟩
  ·refine .ifF (ieq (Int.ofNat n0) (0 : Int)) (by kernel_rfl) h1 ?_
   refine .skip ?_
   exact ⟨(n0,c0,q1),hm,(.k [0] [] [.tmp 5 false] [5] ⟨trF h0,trivial⟩)⟩
theorem r17 {call:CallF} (pu:PureF) (n:Nat) (hcall:call = callP tabs isP pu (inl pu)) {args:LV} {v:Value} (hm:m17 pu n args = some v) (_:∀ x ∈ args,closed2 x = true):args.length≤42∧Run tt call 0 c17_39 (Fr.made 42 args) (pureHeap tabs) (Fin tt 0 [.tmp 4] v):=by
 subst hcall
 unfold m17 at hm
 replace hm:=ll_uncons hm;obtain ⟨a0,args_0,rfl,hm⟩:=hm
 replace hm:=ll_uncons hm;obtain ⟨a1,args_1,rfl,hm⟩:=hm
 replace hm:=ll_end hm;obtain ⟨rfl,hm⟩:=hm
 replace hm:=inv_toSl hm;obtain ⟨s0,rfl,hm⟩:=hm
 replace hm:=inv_toI hm;obtain ⟨x0,rfl,hm⟩:=hm
 unfold m17_ at hm
 refine ⟨by simp,?_⟩
 refine .same (F':=(fr 42 [(0,Sl.v 1 s0),(1,zI x0)])) (H':=(hp 0 [])) (by kernel_rfl) (by kernel_rfl) ?_
 refine .then (.rK ?_)
 refine .ghs (fr 42 [(0,Sl.v 1 s0),(1,zI x0)]) (hp 0 []) (.k0 [] [] [0,1]) ?_
 refine .then (.rK ?_)
 refine .ghs (fr 42 [(0,Sl.v 1 s0),(1,zI x0),(5,(.slice none 0 0))]) (hp 0 []) (.k0 [] [] [0,1,5]) ?_
 refine .then (.rK ?_)
 refine .ghs (fr 42 [(0,Sl.v 1 s0),(5,(.slice none 0 0)),(6,zI x0)]) (hp 0 []) (.k0 [] [] [0,5,6]) ?_
 refine .join (v:=v) (fun y:Nat×Nat×LV=>((fr 42 [(5,(sc 0 0 1 y.1 y.2.1))]),(hp 1 [(oC y.2.2)]))) (fun y=>m17_0 pu n y.1 y.2.1 y.2.2) ?_ ?_
 ·rintro ⟨n0, c0, q1⟩ hm
  exact w17_0 pu n n0 c0 q1 hm
 ·refine .then (.rK ?_)
  refine .ghs (fr 42 [(5,(.slice none 0 0)),(6,zI x0),(11,Sl.v 1 s0),(12,(zI (Int.ofNat (Sl.n s0)))),(13,(zI (0:Int)))]) (hp 0 []) (.k0 [] [] [5,6,11,12,13]) ?_
  refine .block ?_
  refine .loopM (v:=v) (fun y:Nat×Nat×Int×Sl×Int×Int×LV=>((fr 42 [(5,(sc 0 0 1 y.1 y.2.1)),(6,(zI y.2.2.1)),(11,(Sl.v 1 y.2.2.2.1)),(12,(zI y.2.2.2.2.1)),(13,(zI y.2.2.2.2.2.1))]),(hp 1 [(oC y.2.2.2.2.2.2)]))) (fun w y=>l17_2 pu n w y.1 y.2.1 y.2.2.1 y.2.2.2.1 y.2.2.2.2.1 y.2.2.2.2.2.1 y.2.2.2.2.2.2) n ⟨(0,0,x0,s0,(Int.ofNat (Sl.n s0)),(0:Int),([]:LV)),hm,(.thaw 5 1 (by kernel_rfl) (.k0 [] [.tmp 5 false] [5,6,11,12,13]))⟩ (fun _=>rfl) ?_
  rintro w0 ⟨n1,c1,z0,s1,z1,z2,q2⟩ hm
  replace hm:b17_2 pu n (l17_2 pu n w0) n1 c1 z0 s1 z1 z2 q2 = some v:=hm
  unfold b17_2 at hm
  refine .then (.rK ?_)
  replace hm:=bb_inv hm;obtain ⟨h0,hm⟩:=hm
  refine .ghs (fr 42 [(5,sc 0 0 1 n1 c1),(6,zI z0),(11,Sl.v 1 s1),(12,zI z1),(13,zI z2),(14,(zB (ilt z2 z1)))]) (hp 1 [oC q2]) (.k [0] [] [.tmp 5 false] [5,6,11,12,13,14] ⟨trF h0,trivial⟩) ?_
  refine .then ?_
  replace hm:=bb_cases hm;rcases hm with ⟨h1,hm⟩ | ⟨h1,hm⟩
  ·refine .ifT (ilt z2 z1) (by kernel_rfl) h1 ?_
   refine .skip ?_
   refine .ghs (fr 42 [(5,sc 0 0 1 n1 c1),(6,zI z0),(11,Sl.v 1 s1),(12,zI z1),(13,zI z2)]) (hp 1 [oC q2]) (.k [0] [] [.tmp 5 false] [5,6,11,12,13] ⟨trF h0,trivial⟩) ?_
   refine .then ?_
   refine .block ?_
   refine .then ?_
   replace hm:=oo_inv hm;obtain ⟨k1,h2,hm⟩:=hm
   obtain rfl:=toN_some h2
   replace hm:=bb_inv hm;obtain ⟨h3,hm⟩:=hm
   replace hm:=oo_inv hm;obtain ⟨v0,h4,hm⟩:=hm
   replace hm:=inv_toI hm;obtain ⟨x1,rfl,hm⟩:=hm
   refine .reg (eD (keep (hp 1 [oC q2]) (bb (an (Nat.blt k1 (Sl.n s1)) true) (some (fpV (k1 * 1) (Sl.cs s1))) none)) (keep_bb h3) (eD (keep (hp 1 [oC q2]) (nthL (Sl.cs s1) (k1 * 1))) (keep_eq h4) (eE))) ?_
   refine .ghs (fr 42 [(5,sc 0 0 1 n1 c1),(6,zI z0),(8,(zY x1)),(11,Sl.v 1 s1),(12,zI z1),(13,(zI (Int.ofNat k1)))]) (hp 1 [oC q2]) (.k [0] [] [.tmp 5 false] [5,6,8,11,12,13] ⟨trF h0,trivial⟩) ?_
   refine .then ?_
   refine .then (.rK ?_)
   refine .ghs (fr 42 [(5,sc 0 0 1 n1 c1),(6,zI z0),(8,(zY x1)),(11,Sl.v 1 s1),(12,zI z1),(13,(zI (Int.ofNat k1))),(18,(zB (ieq z0 (0:Int))))]) (hp 1 [oC q2]) (.k [0] [] [.tmp 5 false] [5,6,8,11,12,13,18] ⟨trF h0,trivial⟩) ?_
   replace hm:=bb_cases hm;rcases hm with ⟨h5,hm⟩ | ⟨h5,hm⟩
   ·refine .ifT (ieq z0 (0 : Int)) (by kernel_rfl) h5 ?_
    refine .exit ?_
    exact ⟨(n1,c1,q2),hm,(.k [0] [] [.tmp 5 false] [5] ⟨trF h0,trivial⟩)⟩
   ·refine .ifF (ieq z0 (0 : Int)) (by kernel_rfl) h5 ?_
    refine .skip ?_
    refine .ghs (fr 42 [(5,sc 0 0 1 n1 c1),(6,zI z0),(8,(zY x1)),(11,Sl.v 1 s1),(12,zI z1),(13,(zI (Int.ofNat k1)))]) (hp 1 [oC q2]) (.k [0] [] [.tmp 5 false] [5,6,8,11,12,13] ⟨trF h0,trivial⟩) ?_
    refine .then ?_
    replace hm:=bb_inv hm;obtain ⟨h6,hm⟩:=hm
    refine .reg (eC 3 (keep (hp 1 [oC q2]) (bb (ieq z0 (0:Int)) none (some (zI (Int.tmod (wrapF .i64 x1) z0))))) (keep_nb h6) (eE)) ?_
    refine .ghs (fr 42 [(5,sc 0 0 1 n1 c1),(6,zI z0),(9,(zI (wrapF .i64 (Int.add (1:Int) (Int.tmod (wrapF .i64 x1) z0))))),(11,Sl.v 1 s1),(12,zI z1),(13,(zI (Int.ofNat k1)))]) (hp 1 [oC q2]) (.k [0] [] [.tmp 5 false] [5,6,9,11,12,13] ⟨trF h0,trivial⟩) ?_
    refine .then ?_
    replace hm:=bb_inv hm;obtain ⟨h7,hm⟩:=hm
    refine .reg (eC 3 (growD 1 8 n1 c1 1 0 q2 [(zI (wrapF .i64 (Int.add (1:Int) (Int.tmod (wrapF .i64 x1) z0))))] [] (hp 2 [oC q2,(oC [(zI (wrapF .i64 (Int.add (1:Int) (Int.tmod (wrapF .i64 x1) z0))))])])) (growD_eq h7) (eE)) ?_
    replace hm:=bb_inv hm;obtain ⟨h8,hm⟩:=hm
    refine .ghs (fr 42 [(5,(sc 0 0 1 (n1 + 1) (d2 (n1 + 1)))),(6,zI z0),(9,(zI (wrapF .i64 (Int.add (1:Int) (Int.tmod (wrapF .i64 x1) z0))))),(11,Sl.v 1 s1),(12,zI z1),(13,(zI (Int.ofNat k1)))]) (hp 1 [(oC (appL (dropL 0 q2) [(zI (wrapF .i64 (Int.add (1:Int) (Int.tmod (wrapF .i64 x1) z0))))]))]) (.k [2] [] [.tmp 5 false] [5,6,9,11,12,13] ⟨trF h8,trivial⟩) ?_
    refine .rK ?_
    refine .ghs (fr 42 [(5,(sc 0 0 1 (n1 + 1) (d2 (n1 + 1)))),(6,(zI (wrapF .i64 (Int.sub z0 (wrapF .i64 (Int.add (1:Int) (Int.tmod (wrapF .i64 x1) z0))))))),(11,Sl.v 1 s1),(12,zI z1),(13,(zI (Int.ofNat k1)))]) (hp 1 [(oC (appL (dropL 0 q2) [(zI (wrapF .i64 (Int.add (1:Int) (Int.tmod (wrapF .i64 x1) z0))))]))]) (.k [0] [] [.tmp 5 false] [5,6,11,12,13] ⟨trF h8,trivial⟩) ?_
    refine .rK ?_
    exact ⟨((n1 + 1),(d2 (n1 + 1)),(wrapF .i64 (Int.sub z0 (wrapF .i64 (Int.add (1:Int) (Int.tmod (wrapF .i64 x1) z0))))),s1,z1,(wrapF .i64 (Int.add (Int.ofNat k1) (1:Int))),(appL (dropL 0 q2) [(zI (wrapF .i64 (Int.add (1:Int) (Int.tmod (wrapF .i64 x1) z0))))])),hm,(.k [0] [] [.tmp 5 false] [5,6,11,12,13] ⟨trF h8,trivial⟩)⟩
  ·refine .ifF (ilt z2 z1) (by kernel_rfl) h1 ?_
   refine .exit ?_
   exact ⟨(n1,c1,q2),hm,(.k [0] [] [.tmp 5 false] [5] ⟨trF h0,trivial⟩)⟩
end
end Go.HzAM
