/- Words for the plain laws of backs. -/
import Derived.Test.YtokbaaeimejjlaaDoorBkSNodesx
import Derived.Test.YtokbaaeimejjlaaDoorSpMorex
import Derived.Test.YtokbaaeimejjlaaDoorBkSPux
import Derived.KernelRfl

namespace Go.BkQ
open Go Go.Sp
theorem Dr (a b:Nat):AY (Int.ofNat a) (Int.ofNat b)=decide (a < b):=by
 rw[JY];exact decide_eq_decide.2 Int.ofNat_lt
theorem DL (a b:Int):Bd a b=decide (a=b):=by rw[Lr];rfl
theorem G9 (a b:Int):AY a b=decide (a < b):=JY a b
theorem bY {l:List Int} {i:Nat} {b:Int} {r:List Int} (h:l.drop i=b::r):AL (l.map I) (i*1)=some (I b):=by
 rw[BZ,Nat.mul_one]
 have:l[i]?=some b:=by
  have:=congrArg List.head? h
  rw[List.head?_drop] at this;exact this
 rw[List.getElem?_map,this];rfl
theorem LY {l:List Int} {i:Nat} (h:i < l.length):AL (l.map I) (i*1)=some (I l[i]):=by
 rw[BZ,Nat.mul_one,Aja l i h]
theorem V5 {l:List Int} {i:Nat} {b:Int} {r:List Int} (h:l.drop i=b::r):l.drop (i+1)=r∧i < l.length∧b∈l:=by
 refine⟨?_,?_,?_⟩
 ·rw[←List.drop_drop,h];rfl
 ·have:=congrArg List.length h
  simp at this;omega
 ·have:b∈l.drop i:=by rw[h];exact List.mem_cons_self
  exact List.mem_of_mem_drop this
theorem KU {l:List Int} {i:Nat} (h:l.drop i=[]):l.length≤i:=List.drop_eq_nil_iff.1 h
def pick (x:List Int) (row:List Nat):List Int:=row.map fun k=>x.getD k 0
theorem CY (l:List Int):Au Ah (l.map I)=true:=by rw[Bh];exact kL l
theorem gV {q:List Int} {c:Nat} (hq:q.length≤2000) (hc:c / 2=q.length) (hc2:c % 2=0):GV 1 8 q.length c 1 (q.map I)=true:=by
 unfold GV EQ
 rw[AV,List.length_map,hc,hc2]
 rw[show Nat.ble ((4*(q.length+1)+4096)*8) 281474976710656=true from Nat.ble_eq_true_of_le (by omega),show Nat.ble (q.length+1) q.length=false from by rw[ble_eq];simp,show Nat.ble (0+q.length*1) q.length=true from Nat.ble_eq_true_of_le (by omega),show Nat.beq (0+q.length*1) q.length=true from by simp]
 rfl
theorem gW (q:List Int) (z:Int):Br (Am 0 (q.map I)) [(.int .i64 z)]=(q++[z]).map I:=by
 rw[BH,Bz,List.drop_zero,List.map_append];rfl
end Go.BkQ
set_option maxRecDepth 100000
set_option maxHeartbeats 4000000
namespace Go.BkQ
open Go Go.Sp Go.BkSM
theorem Pm (pu:Af) (M:Nat) {a b:List Int} (hab:a.length=b.length) (ha:a.length < 900000) (f1 f2:Nat):∀ (r r':List Int) (w i:Nat),a.drop i=r→b.drop i=r'→r.length < w→i≤a.length →
 Ov pu M w ⟨a.length,f1,a.map I⟩ ⟨b.length,f2,b.map I⟩ (Int.ofNat i)=some (.bool (decide (r=r')))
 | _,_,0,_,_,_,h,_=>by omega
 | [], r', w + 1, i, hd, hd', _, hi => by
  show Ou pu M (Ov pu M w) ⟨a.length,f1,a.map I⟩ ⟨b.length,f2,b.map I⟩ (Int.ofNat i)=_
  have h1:=KU hd
  have h2:r'=[]:=by rw[←hd'];exact List.drop_eq_nil_iff.2 (by omega)
  subst h2
  unfold Ou
  show bb (AY (Int.ofNat i) (Int.ofNat a.length)) _ _=_
  rw[Dr,decide_eq_false (by omega)];rfl
 | x :: r, r', w + 1, i, hd, hd', hw, hi => by
  show Ou pu M (Ov pu M w) ⟨a.length,f1,a.map I⟩ ⟨b.length,f2,b.map I⟩ (Int.ofNat i)=_
  obtain⟨hd2,hi2,_⟩:=V5 hd
  cases r' with
  | nil=>have h1:=KU hd';omega
  | cons y r' =>
   obtain⟨hd3,_,_⟩:=V5 hd'
   have hr:(x::r).length=r.length+1:=rfl
   have hlt:Nat.blt i a.length=true:=by rw[blt_eq];simp;omega
   have hlt2:Nat.blt i b.length=true:=by rw[blt_eq];simp;omega
   have ih:=Pm pu M hab ha f1 f2 r r' w (i+1) hd2 hd3 (by omega) (by omega)
   unfold Ou
   show bb (AY (Int.ofNat i) (Int.ofNat a.length)) (oo (EA (Int.ofNat i)) none fun k=>bb (an (Nat.blt k a.length) true) (oo (AL (a.map I) (k*1)) none fun v=>oo (Bi .i64 v) none fun x1=>bb (an (Nat.blt k b.length) true) (oo (AL (b.map I) (k*1)) none fun v=>oo (Bi .i64 v) none fun x2=>_) none) none) _=_
   rw[Dr,decide_eq_true hi2,Ak,Cx,Ac,hlt,show an true true=true from rfl,Ak,bY hd,Ac,BP,Ac,hlt2,show an true true=true from rfl,Ak,bY hd',Ac,BP,Ac,DC i (by omega),ih,DL]
   by_cases h:x=y
   ·subst h;simp
   ·have hc:¬ (x::r=y::r'):=fun e=>h (by injection e)
    rw[decide_eq_false h,decide_eq_false hc];rfl
theorem p12 (k:Nat) (args:List Value):Bp (k+1) 12 args=m12 (Bp k) L args:=by kernel_rfl
theorem bZ (k f1 f2:Nat) {a b:List Int} (ha:a.length < 900000):Bp (k+1) 12 [S f1 a,S f2 b]=some (.bool (decide (a=b))):=by
 rw[p12]
 show bb (nt (Bd (Int.ofNat a.length) (Int.ofNat b.length))) (some (.bool false)) (Ov (Bp k) L L ⟨a.length,f1,a.map I⟩ ⟨b.length,f2,b.map I⟩ (0:Int))=_
 rw[DL]
 by_cases h:a.length=b.length
 ·rw[decide_eq_true (congrArg Int.ofNat h),show nt true=false from rfl,AA]
  exact Pm (Bp k) L h ha f1 f2 a b L 0 (List.drop_zero) (List.drop_zero) (by show _ < 1000000;omega) (by omega)
 ·have:¬ a=b:=fun e=>h (by rw[e])
  rw[decide_eq_false (fun e=>h (Int.ofNat.inj e)),decide_eq_false this];rfl
def O5:Int→List Int→Int
 | m,[]=>m
 | m,x::r=>O5 (if x < m then x else m) r
def O6:Int→List Int→Int
 | m,[]=>m
 | m,x::r=>O6 (if m < x then x else m) r
theorem SA (pu:Af) (M:Nat) {a:List Int} (ha:a.length < 900000) (f:Nat):∀ (r:List Int) (w i:Nat) (m:Int),a.drop i=r→r.length < w→LU pu M w ⟨a.length,f,a.map I⟩ m (Int.ofNat i)=some (I (O5 m r))
 | _,0,_,_,_,h=>by omega
 | [], w + 1, i, m, hd, _ => by
  show OD pu M (LU pu M w) ⟨a.length,f,a.map I⟩ m (Int.ofNat i)=_
  have h1:=KU hd
  unfold OD
  show bb (AY (Int.ofNat i) (Int.ofNat a.length)) _ _=_
  rw[Dr,decide_eq_false (by omega)];rfl
 | x :: r, w + 1, i, m, hd, hw => by
  show OD pu M (LU pu M w) ⟨a.length,f,a.map I⟩ m (Int.ofNat i)=_
  obtain⟨hd2,hi2,_⟩:=V5 hd
  have hr:(x::r).length=r.length+1:=rfl
  have hlt:Nat.blt i a.length=true:=by rw[blt_eq];simp;omega
  have ih:=SA pu M ha f r w (i+1) (bb (AY x m) x m) hd2 (by omega)
  unfold OD
  show bb (AY (Int.ofNat i) (Int.ofNat a.length)) (oo (EA (Int.ofNat i)) none fun k=>bb (an (Nat.blt k a.length) true) (oo (AL (a.map I) (k*1)) none fun v=>oo (Bi .i64 v) none fun x1=>LU pu M w ⟨a.length,f,a.map I⟩ (bb (AY x1 m) x1 m) (Aj .i64 (Int.add (Int.ofNat k) (1:Int)))) none) _=_
  rw[Dr,decide_eq_true hi2,Ak,Cx,Ac,hlt,show an true true=true from rfl,Ak,bY hd,Ac,BP,Ac,DC i (by omega),ih]
  show some (I (O5 (bb (AY x m) x m) r))=some (I (O5 (if x < m then x else m) r))
  rw[G9]
  by_cases h:x < m
  ·rw[decide_eq_true h,if_pos h];rfl
  ·rw[decide_eq_false h,if_neg h];rfl
theorem SB (pu:Af) (M:Nat) {a:List Int} (ha:a.length < 900000) (f:Nat):∀ (r:List Int) (w i:Nat) (m:Int),a.drop i=r→r.length < w→LW pu M w ⟨a.length,f,a.map I⟩ m (Int.ofNat i)=some (I (O6 m r))
 | _,0,_,_,_,h=>by omega
 | [], w + 1, i, m, hd, _ => by
  show OE pu M (LW pu M w) ⟨a.length,f,a.map I⟩ m (Int.ofNat i)=_
  have h1:=KU hd
  unfold OE
  show bb (AY (Int.ofNat i) (Int.ofNat a.length)) _ _=_
  rw[Dr,decide_eq_false (by omega)];rfl
 | x :: r, w + 1, i, m, hd, hw => by
  show OE pu M (LW pu M w) ⟨a.length,f,a.map I⟩ m (Int.ofNat i)=_
  obtain⟨hd2,hi2,_⟩:=V5 hd
  have hr:(x::r).length=r.length+1:=rfl
  have hlt:Nat.blt i a.length=true:=by rw[blt_eq];simp;omega
  have ih:=SB pu M ha f r w (i+1) (bb (AY m x) x m) hd2 (by omega)
  unfold OE
  show bb (AY (Int.ofNat i) (Int.ofNat a.length)) (oo (EA (Int.ofNat i)) none fun k=>bb (an (Nat.blt k a.length) true) (oo (AL (a.map I) (k*1)) none fun v=>oo (Bi .i64 v) none fun x1=>LW pu M w ⟨a.length,f,a.map I⟩ (bb (AY m x1) x1 m) (Aj .i64 (Int.add (Int.ofNat k) (1:Int)))) none) _=_
  rw[Dr,decide_eq_true hi2,Ak,Cx,Ac,hlt,show an true true=true from rfl,Ak,bY hd,Ac,BP,Ac,DC i (by omega),ih]
  show some (I (O6 (bb (AY m x) x m) r))=some (I (O6 (if m < x then x else m) r))
  rw[G9]
  by_cases h:m < x
  ·rw[decide_eq_true h,if_pos h];rfl
  ·rw[decide_eq_false h,if_neg h];rfl
theorem p68 (k:Nat) (args:List Value):Bp (k+1) 68 args=m68 (Bp k) L args:=by kernel_rfl
theorem p69 (k:Nat) (args:List Value):Bp (k+1) 69 args=m69 (Bp k) L args:=by kernel_rfl
theorem uL (k f:Nat) {x:Int} {r:List Int} (ha:(x::r).length < 900000):Bp (k+1) 68 [S f (x::r)]=some (I (O5 x r)):=by
 rw[p68]
 show bb (AY (Int.ofNat (r.length+1)) (Int.ofNat 1)) none (bb (an (Nat.blt 0 (r.length+1)) true) (LU (Bp k) L L ⟨(x::r).length,f,(x::r).map I⟩ x (Int.ofNat 1)) none)=_
 rw[Dr,decide_eq_false (by omega),AA,show Nat.blt 0 (r.length+1)=true from by rw[blt_eq];simp,show an true true=true from rfl,Ak]
 exact SA (Bp k) L ha f r L 1 x rfl (by have h:(x::r).length=r.length+1:=rfl;show _ < 1000000;omega)
theorem uM (k f:Nat) {x:Int} {r:List Int} (ha:(x::r).length < 900000):Bp (k+1) 69 [S f (x::r)]=some (I (O6 x r)):=by
 rw[p69]
 show bb (AY (Int.ofNat (r.length+1)) (Int.ofNat 1)) none (bb (an (Nat.blt 0 (r.length+1)) true) (LW (Bp k) L L ⟨(x::r).length,f,(x::r).map I⟩ x (Int.ofNat 1)) none)=_
 rw[Dr,decide_eq_false (by omega),AA,show Nat.blt 0 (r.length+1)=true from by rw[blt_eq];simp,show an true true=true from rfl,Ak]
 exact SB (Bp k) L ha f r L 1 x rfl (by have h:(x::r).length=r.length+1:=rfl;show _ < 1000000;omega)
theorem V6 {b:Int}:∀ (r:List Int) (m:Int),b≤m→(∀ x∈r,b≤x)→b≤O5 m r
 | [],_,h,_=>h
 | x :: r, m, h, hx => by
  show b≤O5 (if x < m then x else m) r
  refine V6 r _ ?_ fun y hy=>hx y (List.mem_cons_of_mem _ hy)
  split
  ·exact hx x List.mem_cons_self
  ·exact h
theorem V8 {b:Int}:∀ (r:List Int) (m:Int),m < b→(∀ x∈r,x < b)→O6 m r < b
 | [],_,h,_=>h
 | x :: r, m, h, hx => by
  show O6 (if m < x then x else m) r < b
  refine V8 r _ ?_ fun y hy=>hx y (List.mem_cons_of_mem _ hy)
  split
  ·exact hx x List.mem_cons_self
  ·exact h
end Go.BkQ
set_option maxRecDepth 100000
set_option maxHeartbeats 4000000
namespace Go.BkQ
open Go Go.Sp Go.BkSM
noncomputable section
def Hy (r c k fl:Nat) (ts:List Nat):Value:=.agg ⟨[I (.ofNat r),I (.ofNat c),I (.ofNat k),Sl.v 1 ⟨len ts,fl,Gt ts⟩]⟩
def V9 (r c:Nat) (ts:List Nat):List Value:=AP (fun t=>Ub (cellL r c t)) ts
def Gy (r c k fl:Nat) (ts:List Nat):List Value:=[I (.ofNat r),I (.ofNat c),I (.ofNat k),Sl.v 1 ⟨len ts,fl,Gt ts⟩,Sl.v 1 ⟨len ts,0,V9 r c ts⟩]
def WM (r c k fl:Nat) (ts:List Nat):Value:=Cv 0 (Gy r c k fl ts)
def BB:List (Nat×Nat×List Nat):=[(1,1,[0]),(1,1,[0,2]),(1,1,[0,4]),(1,1,[0,5]),(1,1,[0,2,4,5]),(1,1,[0,1,2,3]),(1,1,[0,6]),(1,1,[0,7]),(1,1,[0,2,6,7]),(1,1,[0,1,2,3,4,5,6,7]),(1,2,[0]),(1,2,[0,2]),(1,2,[0,4]),(1,2,[0,5]),(1,2,[0,2,4,5]),(1,3,[0]),(1,3,[0,2]),(1,3,[0,4]),(1,3,[0,5]),(1,3,[0,2,4,5]),(1,4,[0]),(1,4,[0,2]),(1,4,[0,4]),(1,4,[0,5]),(1,4,[0,2,4,5]),(2,1,[0]),(2,1,[0,2]),(2,1,[0,4]),(2,1,[0,5]),(2,1,[0,2,4,5]),(2,2,[0]),(2,2,[0,2]),(2,2,[0,4]),(2,2,[0,5]),(2,2,[0,2,4,5]),(2,2,[0,1,2,3]),(2,2,[0,6]),(2,2,[0,7]),(2,2,[0,2,6,7]),(2,2,[0,1,2,3,4,5,6,7]),(2,3,[0]),(2,3,[0,2]),(2,3,[0,4]),(2,3,[0,5]),(2,3,[0,2,4,5]),(2,4,[0]),(2,4,[0,2]),(2,4,[0,4]),(2,4,[0,5]),(2,4,[0,2,4,5]),(3,1,[0]),(3,1,[0,2]),(3,1,[0,4]),(3,1,[0,5]),(3,1,[0,2,4,5]),(3,2,[0]),(3,2,[0,2]),(3,2,[0,4]),(3,2,[0,5]),(3,2,[0,2,4,5]),(3,3,[0]),(3,3,[0,2]),(3,3,[0,4]),(3,3,[0,5]),(3,3,[0,2,4,5]),(3,3,[0,1,2,3]),(3,3,[0,6]),(3,3,[0,7]),(3,3,[0,2,6,7]),(3,3,[0,1,2,3,4,5,6,7]),(3,4,[0]),(3,4,[0,2]),(3,4,[0,4]),(3,4,[0,5]),(3,4,[0,2,4,5]),(4,1,[0]),(4,1,[0,2]),(4,1,[0,4]),(4,1,[0,5]),(4,1,[0,2,4,5]),(4,2,[0]),(4,2,[0,2]),(4,2,[0,4]),(4,2,[0,5]),(4,2,[0,2,4,5]),(4,3,[0]),(4,3,[0,2]),(4,3,[0,4]),(4,3,[0,5]),(4,3,[0,2,4,5]),(4,4,[0]),(4,4,[0,2]),(4,4,[0,4]),(4,4,[0,5]),(4,4,[0,2,4,5]),(4,4,[0,1,2,3]),(4,4,[0,6]),(4,4,[0,7]),(4,4,[0,2,6,7]),(4,4,[0,1,2,3,4,5,6,7])]
end
theorem WN (n fl k:Nat) (hk:k=1∨k=2∨k=3∨k=4):AP (fun p=>Bp (n+6) 49 [Hy p.1 p.2.1 k fl p.2.2]) BB=AP (fun p=>some (.tuple ⟨[WM p.1 p.2.1 k fl p.2.2,I 0]⟩)) BB:=by
 rcases hk with rfl | rfl | rfl | rfl <;> kernel_rfl
theorem Je {α β:Type} {f g:α→β}:∀ {l:List α},AP f l=AP g l→∀ x∈l,f x=g x
 | [],_,_,h=>by cases h
 | a :: l, h, x, hx => by
  injection (show f a::AP f l=g a::AP g l from h) with h1 h2
  cases hx with
  | head=>exact h1
  | tail _ hx=>exact Je h2 x hx
theorem cB (n fl:Nat) {r c k:Nat} {ts:List Nat} (hk:k=1∨k=2∨k=3∨k=4) (h:(r,c,ts)∈BB):Bp (n+6) 49 [Hy r c k fl ts]=some (.tuple ⟨[WM r c k fl ts,I 0]⟩):=Je (f:=fun p:Nat×Nat×List Nat=>Bp (n+6) 49 [Hy p.1 p.2.1 k fl p.2.2]) (g:=fun p=>some (.tuple ⟨[WM p.1 p.2.1 k fl p.2.2,I 0]⟩)) (WN n fl k hk) (r,c,ts) h
def OM (r c k:Nat) (x:List Int):Int:=if x.length≠r*c then 5 else if (∀ z∈x,0≤z∧z < (k:Int)) then 0 else 1
theorem Wj {b:Int}:∀ (r:List Int) (m:Int),(m < b∨∃ x∈r,x < b)→O5 m r < b
 | [], m, h => by
  rcases h with h | ⟨x,hx,_⟩
  ·exact h
  ·cases hx
 | y :: r, m, h => by
  show O5 (if y < m then y else m) r < b
  refine Wj r _ ?_
  rcases h with h | ⟨x,hx,h⟩
  ·left;split <;> omega
  ·rcases List.mem_cons.1 hx with rfl | hx
   ·left;split <;> omega
   ·exact .inr ⟨x,hx,h⟩
theorem Wl {b:Int}:∀ (r:List Int) (m:Int),(b≤m∨∃ x∈r,b≤x)→b≤O6 m r
 | [], m, h => by
  rcases h with h | ⟨x,hx,_⟩
  ·exact h
  ·cases hx
 | y :: r, m, h => by
  show b≤O6 (if m < y then y else m) r
  refine Wl r _ ?_
  rcases h with h | ⟨x,hx,h⟩
  ·left;split <;> omega
  ·rcases List.mem_cons.1 hx with rfl | hx
   ·left;split <;> omega
   ·exact .inr ⟨x,hx,h⟩
theorem p58 (k:Nat) (args:List Value):Bp (k+1) 58 args=m58 (Bp k) L args:=by kernel_rfl
theorem YC (n f:Nat) {r c k:Nat} {d3 d4:Value} {x:List Int} (hr:1≤r) (hr4:r≤4) (hc:1≤c) (hc4:c≤4) (hx:x.length < 900000) :
 Bp (n+2) 58 [Cv 0 [I (.ofNat r),I (.ofNat c),I (.ofNat k),d3,d4],S f x]=some (I (OM r c k x)):=by
 rw[p58]
 show bb (nt (Bd (Int.ofNat x.length) (Aj .i64 (Int.mul (Int.ofNat r) (Int.ofNat c))))) (some (I 5)) (oo (Bp (n+1) 68 [S f x]) none fun v6555=>(oo (Bi .i64 v6555) none fun x6557=>(bb (AY x6557 (0:Int)) (some (I 1)) (oo (Bp (n+1) 69 [S f x]) none fun v6564=>(oo (Bi .i64 v6564) none fun x6566=>bb (nt (AY x6566 (Int.ofNat k))) (some (I 1)) (some (I 0)))))))=_
 have hrc:r*c≤16:=Nat.mul_le_mul hr4 hc4
 have hrc1:1≤r*c:=Nat.mul_le_mul hr hc
 rw[show Int.mul (Int.ofNat r) (Int.ofNat c)=Int.ofNat (r*c) from rfl,Oe _ (by simp;omega) (by simp;omega),DL]
 unfold OM
 by_cases h:x.length=r*c
 ·rw[decide_eq_true (congrArg Int.ofNat h),show nt true=false from rfl,AA,if_neg (by simpa using h)]
  obtain⟨y,t,rfl⟩:∃ y t,x=y::t:=by
   cases x with
   | nil=>simp at h;omega
   | cons y t=>exact⟨y,t,rfl⟩
  rw[uL n f hx,Ac,BP,Ac,uM n f hx,Ac,BP,Ac,G9,G9]
  by_cases h1:O5 y t < 0
  ·rw[decide_eq_true h1,Ak,if_neg]
   intro ha
   have:=V6 (b:=0) t y (ha y List.mem_cons_self).1 fun z hz=>(ha z (List.mem_cons_of_mem _ hz)).1
   omega
  ·rw[decide_eq_false h1,AA]
   by_cases h2:O6 y t < Int.ofNat k
   ·rw[decide_eq_true h2,show nt true=false from rfl,AA,if_pos]
    intro z hz
    refine⟨?_,?_⟩
    ·refine Int.not_lt.1 fun hn=>h1 (Wj t y ?_)
     rcases List.mem_cons.1 hz with rfl | hz
     ·exact .inl hn
     ·exact .inr ⟨z,hz,hn⟩
    ·refine Int.not_le.1 fun hn=>Int.not_le.2 h2 (Wl t y ?_)
     rcases List.mem_cons.1 hz with rfl | hz
     ·exact .inl hn
     ·exact .inr ⟨z,hz,hn⟩
   ·rw[decide_eq_false h2,show nt false=true from rfl,Ak,if_neg]
    intro ha
    exact h2 (V8 t y (ha y List.mem_cons_self).2 fun z hz=>(ha z (List.mem_cons_of_mem _ hz)).2)
 ·rw[decide_eq_false (fun e=>h (Int.ofNat.inj e)),show nt false=true from rfl,Ak,if_pos h]
def QK:List Int→Int
 | []=>0
 | e::r=>if e=0 then QK r else e
def Wm (b:Value) (e:Int):Value:=if e=0 then .tuple ⟨[b,I 0]⟩ else .tuple ⟨[.pointer none,I e]⟩
theorem LZ (pu:Af) (M off:Nat) (cs:List Value) {bs:List Sl} {e:Sl→Int} (h:∀ s∈bs,pu 58 [Cv off cs,Sl.v 1 s]=some (I (e s))) (hl:bs.length < 1000) (f:Nat):∀ (r:List Sl) (w i:Nat),bs.drop i=r→r.length < w →
 Kh pu M w off cs ⟨bs.length,f,bs.map (Sl.v 1)⟩ (Int.ofNat bs.length) (Int.ofNat i)=some (Wm (Cv off cs) (QK (r.map e)))
 | _,0,_,_,hw=>by omega
 | [], w + 1, i, hd, _ => by
  show OA pu M (Kh pu M w) off cs ⟨bs.length,f,bs.map (Sl.v 1)⟩ (Int.ofNat bs.length) (Int.ofNat i)=_
  have h1:bs.length≤i:=List.drop_eq_nil_iff.1 hd
  unfold OA
  rw[Dr,decide_eq_false (by omega)];rfl
 | s :: r, w + 1, i, hd, hw => by
  show OA pu M (Kh pu M w) off cs ⟨bs.length,f,bs.map (Sl.v 1)⟩ (Int.ofNat bs.length) (Int.ofNat i)=_
  have hi2:i < bs.length:=by have:=congrArg List.length hd;simp at this;omega
  have hd2:bs.drop (i+1)=r:=by rw[←List.drop_drop,hd];rfl
  have hsi:bs[i]?=some s:=by
   have:=congrArg List.head? hd
   rw[List.head?_drop] at this;exact this
  have hs:=h s (List.mem_of_getElem? hsi)
  have hn:AL (bs.map (Sl.v 1)) (i*1)=some (Sl.v 1 s):=by rw[BZ,Nat.mul_one,List.getElem?_map,hsi];rfl
  have hrl:(s::r).length=r.length+1:=rfl
  have ih:=LZ pu M off cs h hl f r w (i+1) hd2 (by omega)
  unfold OA
  show bb (AY (Int.ofNat i) (Int.ofNat bs.length)) (oo (EA (Int.ofNat i)) none fun k=>bb (an (Nat.blt k bs.length) true) (oo (AL (bs.map (Sl.v 1)) (k*1)) none fun v=>oo (Bj 1 v) none fun s1=>oo (pu 58 [Cv off cs,Sl.v 1 s1]) none fun v=>oo (Bi .i64 v) none fun x=>bb (nt (Bd x (0:Int))) (some (.tuple ⟨[.pointer none,I x]⟩)) (Kh pu M w off cs ⟨bs.length,f,bs.map (Sl.v 1)⟩ (Int.ofNat bs.length) (Aj .i64 (Int.add (Int.ofNat k) (1:Int))))) none) _=_
  rw[Dr,decide_eq_true hi2,Ak,Cx,Ac,show Nat.blt i bs.length=true from by rw[blt_eq];simpa using hi2,show an true true=true from rfl,Ak,hn,Ac,Dc,Ac,hs,Ac,BP,Ac,DC i (by omega),ih,DL]
  show _=some (Wm (Cv off cs) (if e s=0 then QK (r.map e) else e s))
  by_cases he:e s=0
  ·rw[decide_eq_true he,show nt true=false from rfl,AA,if_pos he]
  ·rw[decide_eq_false he,show nt false=true from rfl,Ak,if_neg he]
   unfold Wm
   rw[if_neg he]
theorem p32 (k:Nat) (args:List Value):Bp (k+1) 32 args=m32 (Bp k) L args:=by kernel_rfl
theorem WO (n f fl:Nat) {r c k:Nat} {ts:List Nat} {bs:List Sl} (hk:k=1∨k=2∨k=3∨k=4) (hg:(r,c,ts)∈BB) (hr:1≤r) (hr4:r≤4) (hc:1≤c) (hc4:c≤4) (e:Sl→Int)
 (hb:∀ s∈bs,∃ f x,s=sl f x∧x.length < 900000∧e s=OM r c k x) (hl:bs.length < 1000) :
 Bp (n+7) 32 [Hy r c k fl ts,Sl.v 1 ⟨bs.length,f,bs.map (Sl.v 1)⟩]=some (Wm (WM r c k fl ts) (QK (bs.map e))):=by
 rw[p32]
 show oo (Bp (n+6) 49 [Hy r c k fl ts]) none _=_
 rw[cB n fl hk hg,Ac]
 show Kh (Bp (n+6)) L L 0 (Gy r c k fl ts) ⟨bs.length,f,bs.map (Sl.v 1)⟩ (Int.ofNat bs.length) (Int.ofNat 0)=_
 exact LZ (Bp (n+6)) L 0 (Gy r c k fl ts) (fun s hs=>by
  obtain⟨f,x,rfl,hx,he⟩:=hb s hs
  rw[he]
  exact YC (n+4) f hr hr4 hc hc4 hx) hl f bs L 0 List.drop_zero (by show _ < 1000000;omega)
end Go.BkQ
set_option maxRecDepth 100000
set_option maxHeartbeats 4000000
namespace Go.BkQ
open Go Go.Sp Go.BkSM
noncomputable def uN (n:Nat):Bool:=an (Nat.ble 1 n) (Nat.ble n 4)
noncomputable def rowOk (r c t:Nat):Bool:=an (Nat.beq (len (cellL r c t)) (r*c)) (Au (fun k=>Nat.blt k (r*c)) (cellL r c t))
noncomputable def cK (p:Nat×Nat×List Nat):Bool:=an (uN p.1) (an (uN p.2.1) (an (Nat.ble (len p.2.2) 8) (Au (fun t=>an (Nat.ble t 7) (rowOk p.1 p.2.1 t)) p.2.2)))
theorem WP:Au cK BB=true:=by kernel_rfl
theorem KV {n:Nat} (h:uN n=true):1≤n∧n≤4:=by
 obtain⟨h1,h2⟩:=Av h
 exact⟨Nat.le_of_ble_eq_true h1,Nat.le_of_ble_eq_true h2⟩
structure Wn (r c:Nat) (ts:List Nat):Prop where
 r1:1≤r
 r4:r≤4
 c1:1≤c
 c4:c≤4
 len8:ts.length≤8
 row:∀ t∈ts,t≤7∧(cellL r c t).length=r*c∧∀ k∈cellL r c t,k < r*c
theorem Co {r c:Nat} {ts:List Nat} (h:(r,c,ts)∈BB):Wn r c ts:=by
 have h1:=WP
 rw[Bh,List.all_eq_true] at h1
 obtain⟨a1,a2⟩:=Av (h1 _ h)
 obtain⟨a2,a3⟩:=Av a2
 obtain⟨a3,a4⟩:=Av a3
 have a3:=Nat.le_of_ble_eq_true a3
 rw[AV] at a3
 rw[Bh,List.all_eq_true] at a4
 refine⟨(KV a1).1,(KV a1).2,(KV a2).1,(KV a2).2,a3,fun t ht=>?_⟩
 obtain⟨b1,b2⟩:=Av (a4 t ht)
 obtain⟨b2,b3⟩:=Av b2
 have b2:=Nat.eq_of_beq_eq_true b2
 rw[AV] at b2
 rw[Bh,List.all_eq_true] at b3
 exact⟨Nat.le_of_ble_eq_true b1,b2,fun k hk=>by simpa [blt_eq] using b3 k hk⟩
def I8 (r c k:Nat) (x:List Int):Prop:=x.length=r*c∧∀ z∈x,0≤z∧z < (k:Int)
theorem I8.valid {r c k:Nat} {x:List Int} (h:I8 r c k x):OM r c k x=0:=by
 unfold OM
 rw[if_neg (by simpa using h.1),if_pos h.2]
theorem SC (x:List Int) (row:List Nat):(pick x row).length=row.length:=by simp[pick]
theorem I8.pick {r c k t:Nat} {ts:List Nat} {x:List Int} (hp:Wn r c ts) (ht:t∈ts) (h:I8 r c k x):I8 r c k (pick x (cellL r c t)):=by
 obtain⟨_,h1,h2⟩:=hp.row t ht
 refine⟨by rw[SC,h1],fun z hz=>?_⟩
 unfold BkQ.pick at hz
 obtain⟨j,hj,rfl⟩:=List.mem_map.1 hz
 have hj2:j < x.length:=by rw[h.1];exact h2 j hj
 rw[List.getD_eq_getElem?_getD,List.getElem?_eq_getElem hj2]
 exact h.2 _ (List.getElem_mem hj2)
end Go.BkQ
set_option maxRecDepth 100000
namespace Go.BkQ
open Go Go.Sp
noncomputable section
def p64:List (Nat×Nat):=[(0,0),(0,1),(0,2),(0,3),(0,4),(0,5),(0,6),(0,7),(1,0),(1,1),(1,2),(1,3),(1,4),(1,5),(1,6),(1,7),(2,0),(2,1),(2,2),(2,3),(2,4),(2,5),(2,6),(2,7),(3,0),(3,1),(3,2),(3,3),(3,4),(3,5),(3,6),(3,7),(4,0),(4,1),(4,2),(4,3),(4,4),(4,5),(4,6),(4,7),(5,0),(5,1),(5,2),(5,3),(5,4),(5,5),(5,6),(5,7),(6,0),(6,1),(6,2),(6,3),(6,4),(6,5),(6,6),(6,7),(7,0),(7,1),(7,2),(7,3),(7,4),(7,5),(7,6),(7,7)]
end
end Go.BkQ
set_option maxRecDepth 100000
set_option maxHeartbeats 4000000
namespace Go.BkQ
open Go Go.Sp Go.BkSM
noncomputable section
def eqL (a:List Nat):List Nat→Bool:=List.rec (motive:=fun _=>List Nat→Bool) (fun b=>ll b true fun _ _=>false) (fun x _ ih b=>ll b false fun y b=>an (Nat.beq x y) (ih b)) a
def uO (r c:Nat) (us:List Nat):Bool:=List.rec (motive:=fun _=>Bool) false (fun p _ ih=>Dp (an (Nat.beq p.1 r) (an (Nat.beq p.2.1 c) (eqL p.2.2 us))) ih) BB
end
end Go.BkQ
set_option maxRecDepth 100000
set_option maxHeartbeats 4000000
namespace Go.BkQ
open Go Go.Sp Go.BkSM
theorem p43 (k:Nat) (args:List Value):Bp (k+1) 32 args=m32 (Bp k) L args:=by kernel_rfl
end Go.BkQ
set_option maxRecDepth 100000
set_option maxHeartbeats 4000000
namespace Go.BkQ
open Go Go.Sp Go.BkSM
theorem Kc:∀ n,upN n=List.range n
 | 0=>rfl
 | n + 1 => by
  show Br (upN n) [n]=_
  rw[BH,Kc n,List.range_succ]
theorem AdB (l:List Int):Aq (l.length*1) (Am 0 (l.map I))=l.map I:=by rw[Cg,Bz,List.drop_zero,Nat.mul_one];exact List.take_of_length_le (by simp)
theorem AeF (l:List Int):an (Nat.ble (0+l.length*1) (len (l.map I))) (Au Ah (l.map I))=true:=by
 rw[CY,AV,show Nat.ble (0+l.length*1) (l.map I).length=true from Nat.ble_eq_true_of_le (by simp)];rfl
theorem p51 (k:Nat) (args:List Value):Bp (k+1) 36 args=m36 (Bp k) L args:=by kernel_rfl
end Go.BkQ
set_option maxRecDepth 100000
set_option maxHeartbeats 4000000
namespace Go.BkQ
open Go Go.Sp Go.BkSM
theorem Wo {row:List Nat} {i k:Nat} {rest:List Nat} (h:row.drop i=k::rest):AL (Gt row) (i*1)=some (I (.ofNat k))∧row.drop (i+1)=rest∧i < row.length:=by
 have hi:i < row.length:=by have:=congrArg List.length h;simp at this;omega
 have hk:row[i]?=some k:=by
  have:=congrArg List.head? h
  rw[List.head?_drop] at this;exact this
 refine⟨?_,by rw[←List.drop_drop,h];rfl,hi⟩
 rw[BZ,Nat.mul_one,show Gt row=row.map fun n=>IV (Int.ofNat n) from Cc _ _,List.getElem?_map,hk];rfl
end Go.BkQ
set_option maxRecDepth 100000
set_option maxHeartbeats 4000000
namespace Go.BkQ
open Go Go.Sp Go.BkSM
theorem KW (n f g:Nat) {r c k:Nat} {us:List Nat} {x:List Int} (hg:(r,c,us)∈BB) (hk:k=1∨k=2∨k=3∨k=4) (hx:I8 r c k x) :
 Bp (n+7) 32 [Hy r c k f us,(Sl.v 1 (Sl.mk 1 0 (Aq (1*1) (Am 0 ([(Sl.v 1 (sl g x))]:List Value)))))]=some (.tuple ⟨[WM r c k f us,I 0]⟩):=by
 have hpr:=Co hg
 have hrc:r*c≤16:=Nat.mul_le_mul hpr.r4 hpr.c4
 have h:=WO n 0 f (bs:=[sl g x]) hk hg hpr.r1 hpr.r4 hpr.c1 hpr.c4 (fun _=>0) (fun s hs=>by
  obtain rfl:=List.mem_singleton.1 hs
  exact⟨g,x,rfl,by rw[hx.1];omega,hx.valid.symm⟩) (by simp)
 exact h
end Go.BkQ
set_option maxRecDepth 100000
set_option maxHeartbeats 4000000
namespace Go.BkQ
open Go Go.Sp Go.BkSM
def Iz:List Int→List Int→Bool
 | x::r,y::s=>if x=y then Iz r s else decide (x < y)
 | _,_=>false
theorem Wp:∀ a,Iz a a=false
 | []=>rfl
 | x::r=>by simp[Iz,Wp r]
theorem Pn:∀ {a b c:List Int},Iz a b=true→Iz b c=true→Iz a c=true
 | [],_,_,h,_=>by simp[Iz] at h
 | _::_,[],_,h,_=>by simp[Iz] at h
 | _::_,_::_,[],_,h=>by simp[Iz] at h
 | x :: a, y :: b, z :: c, h1, h2 => by
  unfold Iz at h1 h2 ⊢
  by_cases e1:x=y
  ·subst e1
   by_cases e2:x=z
   ·subst e2
    simp only[if_true] at *
    exact Pn h1 h2
   ·rw[if_neg e2] at h2 ⊢
    exact h2
  ·rw[if_neg e1] at h1
   by_cases e2:y=z
   ·subst e2
    rw[if_neg e1];exact h1
   ·rw[if_neg e2] at h2
    have h1:=of_decide_eq_true h1
    have h2:=of_decide_eq_true h2
    rw[if_neg (by omega)]
    exact decide_eq_true (by omega)
theorem Wq:∀ {a b:List Int},a.length=b.length→a≠b→Iz a b=false→Iz b a=true
 | [],[],_,h,_=>absurd rfl h
 | [],_::_,h,_,_=>by simp at h
 | _::_,[],h,_,_=>by simp at h
 | x :: a, y :: b, hl, hn, h => by
  unfold Iz at h ⊢
  by_cases e:x=y
  ·subst e
   simp only[if_true] at *
   exact Wq (by simpa using hl) (fun e=>hn (by rw[e])) h
  ·rw[if_neg e] at h
   have h:=of_decide_eq_false h
   rw[if_neg (Ne.symm e)]
   exact decide_eq_true (by omega)
theorem FY {n i:Nat} (h:i < n):AY (Int.ofNat i) (Int.ofNat n)=true:=by rw[Dr];exact decide_eq_true h
theorem Fp {n i:Nat} (h:¬ i < n):AY (Int.ofNat i) (Int.ofNat n)=false:=by rw[Dr];exact decide_eq_false h
theorem FM {n i:Nat} (h:i < n):an (Nat.blt i n) true=true:=by rw[CF,blt_eq,decide_eq_true h];rfl
def RO (x y:Int):Int:=if x < y then -1 else if y < x then 1 else 0
theorem p90 (k:Nat) (args:List Value):Bp (k+1) 65 args=vE (Bp k) L args:=by kernel_rfl
theorem AeG (k:Nat) (args:List Value):Bp (k+1) 74 args=m74 (Bp k) L args:=by kernel_rfl
theorem uP (n:Nat) (x:Int):Bp (n+1) 74 [I x]=some (.bool false):=by
 rw[AeG]
 show some (Value.bool (nt (Bd x x)))=_
 rw[DL,decide_eq_true rfl];rfl
theorem cO (n:Nat) (x y:Int):Bp (n+2) 65 [I x,I y]=some (I (RO x y)):=by
 rw[p90]
 unfold vE uA RO
 simp only[Dj,EG,BP,Ac,uP,BU,AA,G9]
 by_cases h1:x < y
 ·simp[h1]
 ·by_cases h2:y < x <;> simp[h1,h2]
def cmpL (a b:List Int):Int:=if Iz a b then -1 else if Iz b a then 1 else 0
theorem cZ (a b:List Int):AY (cmpL a b) 0=Iz a b:=by
 rw[G9]
 unfold cmpL
 cases Iz a b <;> cases Iz b a <;> rfl
theorem dA {x y:Int} (h:x≠y) (a b:List Int):RO x y=cmpL (x::a) (y::b)∧RO x y≠0:=by
 unfold RO cmpL Iz
 rw[if_neg h,if_neg (Ne.symm h)]
 by_cases h1:x < y
 ·rw[if_pos h1,if_pos (decide_eq_true h1)];exact⟨rfl,by decide⟩
 ·rw[if_neg h1,if_pos (show y < x by omega),if_neg (by simpa using h1),if_pos (by simp;omega)];exact⟨rfl,by decide⟩
theorem WQ (x:Int) (a b:List Int):cmpL (x::a) (x::b)=cmpL a b:=by
 unfold cmpL
 simp only[Iz,if_true]
theorem p70 (k:Nat) (args:List Value):Bp (k+1) 45 args=m45 (Bp k) L args:=by kernel_rfl
theorem SE (n M:Nat) {a b:List Int} (hab:a.length=b.length) (ha:a.length < 900000) (f1 f2:Nat):∀ (d w i:Nat),i+d=a.length→d < w →
 Pg (Bp (n+2)) M w (sl f1 a) (sl f2 b) (sl f1 a) (.ofNat a.length) (.ofNat i)=some (I (cmpL (a.drop i) (b.drop i)))
 | _,0,_,_,h=>by omega
 | 0, w + 1, i, hd, _ => by
  show OB (Bp (n+2)) M (Pg (Bp (n+2)) M w) (sl f1 a) (sl f2 b) (sl f1 a) (.ofNat a.length) (.ofNat i)=_
  unfold OB Si
  simp only[I4,Fp (show ¬ i < a.length from by omega),Fp (show ¬ a.length < b.length from by omega),AA,List.drop_eq_nil_of_le (show a.length≤i by omega),List.drop_eq_nil_of_le (show b.length≤i by omega)]
  rfl
 | d + 1, w + 1, i, hd, hw => by
  have h1:i < a.length:=by omega
  have h2:i < b.length:=by omega
  show OB (Bp (n+2)) M (Pg (Bp (n+2)) M w) (sl f1 a) (sl f2 b) (sl f1 a) (.ofNat a.length) (.ofNat i)=_
  unfold OB
  simp only[I4,GX,FY h1,FY h2,Ak,Cx,Ac,FM h1,FM h2,LY h1,LY h2,BP,DL,DC i (by omega),SE n M hab ha f1 f2 d w (i+1) (by omega) (by omega),List.drop_eq_getElem_cons h1,List.drop_eq_getElem_cons h2,cO,show nt true=false from rfl,AA]
  by_cases h:a[i]=b[i]
  ·rw[h,WQ,show RO b[i] b[i]=0 from by unfold RO;rw[if_neg (by omega),if_neg (by omega)]];rfl
  ·obtain⟨h3,h4⟩:=dA h (a.drop (i+1)) (b.drop (i+1))
   rw[decide_eq_false h4,h3];rfl
theorem Uy (n f1 f2:Nat) {a b:List Int} (hab:a.length=b.length) (ha:a.length < 900000):Bp (n+3) 45 [S f1 a,S f2 b]=some (I (cmpL a b)):=by
 rw[p70]
 exact SE n L hab ha f1 f2 a.length L 0 (by omega) (by show _ < 1000000;omega)
end Go.BkQ
set_option maxRecDepth 100000
set_option maxHeartbeats 4000000
namespace Go.BkQ
open Go Go.Sp Go.BkSM
noncomputable def RW (l:List (List Int)):List Value:=l.map fun x=>Sl.v 1 (sl 0 x)
theorem uQ (l:List (List Int)):len (RW l)=l.length:=by rw[AV];simp[RW]
def Zt (m:Nat) (l:List (List Int)):Prop:=∀ x∈l,x.length=m
theorem Zt.set {m:Nat} {l:List (List Int)} (h:Zt m l) (i:Nat) {x:List Int} (hx:x.length=m):Zt m (l.set i x):=fun y hy=>by
 rcases List.mem_or_eq_of_mem_set hy with h2 | rfl
 ·exact h y h2
 ·exact hx
theorem Zt.at {m:Nat} {l:List (List Int)} (h:Zt m l) {i:Nat} (hi:i < l.length):(l[i]).length=m:=h _ (List.getElem_mem hi)
end Go.BkQ
set_option maxRecDepth 100000
set_option maxHeartbeats 4000000
namespace Go.BkQ
open Go Go.Sp Go.BkSM
end Go.BkQ
set_option maxRecDepth 100000
set_option maxHeartbeats 4000000
namespace Go.BkQ
open Go Go.Sp Go.BkSM
end Go.BkQ
set_option maxRecDepth 100000
set_option maxHeartbeats 4000000
namespace Go.BkQ
open Go Go.Sp Go.BkSM
theorem Qk {q:List (List Int)} {c:Nat} (hq:q.length≤2000) (hc:c / 2=q.length) (hc2:c % 2=0):GV 1 24 q.length c 1 (RW q)=true:=by
 unfold GV EQ
 rw[uQ,hc,hc2]
 rw[show Nat.ble ((4*(q.length+1)+4096)*24) 281474976710656=true from Nat.ble_eq_true_of_le (by omega),show Nat.ble (q.length+1) q.length=false from by rw[ble_eq];simp,show Nat.ble (0+q.length*1) q.length=true from Nat.ble_eq_true_of_le (by omega),show Nat.beq (0+q.length*1) q.length=true from by simp]
 rfl
end Go.BkQ
set_option maxRecDepth 100000
set_option maxHeartbeats 4000000
namespace Go.BkQ
open Go Go.Sp Go.BkSM
end Go.BkQ
set_option maxRecDepth 100000
set_option maxHeartbeats 4000000
namespace Go.BkQ
open Go Go.Sp Go.BkSM
end Go.BkQ
set_option maxRecDepth 100000
set_option maxHeartbeats 4000000
namespace Go.BkQ
open Go Go.Sp Go.BkSM
theorem Zu (off:Nat) (cs:List Value):Pv (Cv off cs)=some ⟨off,cs⟩:=rfl
theorem NA {α:Type} (a:α):isS (some a)=true:=rfl
theorem Nz {α:Type}:isS (none:Option α)=false:=rfl
end Go.BkQ
set_option maxRecDepth 100000
set_option maxHeartbeats 4000000
namespace Go.BkQ
open Go Go.Sp Go.BkSM
theorem Ws {us:List Nat} {i t:Nat} {rest:List Nat} (h:us.drop i=t::rest):us[i]?=some t:=by
 have:=congrArg List.head? h
 rw[List.head?_drop] at this;exact this
end Go.BkQ
set_option maxRecDepth 100000
set_option maxHeartbeats 4000000
namespace Go.BkQ
open Go Go.Sp Go.BkSM
end Go.BkQ
set_option maxRecDepth 100000
set_option maxHeartbeats 4000000
namespace Go.BkQ
open Go Go.Sp Go.BkSM
theorem Eb (a b:Nat):Bd (Int.ofNat a) (Int.ofNat b)=Nat.beq a b:=by
 rw[DL]
 by_cases h:a=b
 ·subst h;simp
 ·rw[decide_eq_false (fun e=>h (Int.ofNat.inj e))]
  cases e:Nat.beq a b with
  | false=>rfl
  | true=>exact absurd (Nat.eq_of_beq_eq_true e) h
end Go.BkQ
namespace Go.BkH
def WR (zs:List Int):List Int:=zs.mergeSort fun x y=>decide (x≤y)
theorem Jv (l:List Int):(WR l).Perm l:=List.mergeSort_perm _ _
theorem Jf (l:List Int):(WR l).Pairwise (·≤·):=by
 have:=List.pairwise_mergeSort (le:=fun x y:Int=>decide (x≤y)) (fun a b c h1 h2=>by simp at *;omega) (fun a b=>by simp;omega) l
 exact this.imp fun h=>by simpa using h
theorem KX {a b:List Int} (h:a.Perm b):WR a=WR b:=
 List.Perm.eq_of_pairwise (fun _ _ _ _ h1 h2=>Int.le_antisymm h1 h2) (Jf a) (Jf b) ((Jv a).trans (h.trans (Jv b).symm))
theorem dB {a:List Int} (h:a.Pairwise (· < ·)):WR a=a:=
 List.Perm.eq_of_pairwise (fun _ _ _ _ h1 h2=>Int.le_antisymm h1 h2) (Jf a) (h.imp fun h=>Int.le_of_lt h) (Jv a)
def ints (l:List Nat):List Int:=l.map Int.ofNat
def own (l:List Nat):List Int:=WR (ints l)
theorem MM (l:List Nat):(own l).length=l.length:=by unfold own;rw[(Jv _).length_eq];simp[ints]
def Iq (c:Nat) (l:List Nat):Bool:=l.any fun k=>c.testBit k
theorem DT {c:Nat} {l:List Nat}:Iq c l=true↔∃ k∈l,c.testBit k=true:=by unfold Iq;simp
theorem K8 {c:Nat} {l m:List Nat} (h:l ⊆ m) (hh:Iq c l=true):Iq c m=true:=by
 obtain⟨k,hk,hb⟩:=DT.1 hh
 exact DT.2 ⟨k,h hk,hb⟩
def bL (C:List Nat) (l:List Nat):Prop:=∀ c∈C,c=0∨Iq c l=true
def AO (n c:Nat):List Nat:=(List.range n).filter c.testBit
section
variable (lt:List Int→List Int→Bool) (n:Nat)
def Hz (a b:List Int):Prop:=a.length < b.length∨(a.length=b.length∧lt a b=true)
def upd (st:Option (List Int)) (x:List Int):Option (List Int):=
 match st with
 | none=>some x
 | some b=>if x.length < b.length∨(x.length=b.length∧lt x b=true) then some x else some b
def Uz (st:Option (List Int)) (l:List Nat):Prop:=∃ b,st=some b∧l.length=b.length
open Classical in
noncomputable def Ir:List Nat→List Nat→Option (List Int)→Option (List Int)
 | [],l,st=>upd lt st (own l)
 | c::C,l,st=>if c=0∨Iq c l=true then Ir C l st else if Uz st l then st else (AO n c).foldl (fun st k=>Ir C (l++[k]) st) st
def Wt (st:Option (List Int)) (x:List Int):Prop:=∃ b,st=some b∧(b=x∨Hz lt b x)
end
variable {lt:List Int→List Int→Bool} {n:Nat}
structure Zv (lt:List Int→List Int→Bool):Prop where
 irr:∀ a,lt a a=false
 trans:∀ {a b c},lt a b=true→lt b c=true→lt a c=true
 tri:∀ {a b:List Int},a.length=b.length→a≠b→lt a b=false→lt b a=true
theorem IB (ho:Zv lt) {a b c:List Int} (h1:Hz lt a b) (h2:Hz lt b c):Hz lt a c:=by
 rcases h1 with h1 | ⟨e1,h1⟩ <;> rcases h2 with h2 | ⟨e2,h2⟩
 ·exact .inl (by omega)
 ·exact .inl (by omega)
 ·exact .inl (by omega)
 ·exact .inr ⟨by omega,ho.trans h1 h2⟩
theorem UA (ho:Zv lt) {a b:List Int} (h:¬ Hz lt a b):b=a∨Hz lt b a:=by
 by_cases e:a=b
 ·exact .inl e.symm
 ·unfold Hz at h
  have h1:¬ a.length < b.length:=fun g=>h (.inl g)
  by_cases hl:a.length=b.length
  ·have : lt a b = false := by
    cases hh:lt a b with
    | false=>rfl
    | true=>exact absurd (.inr ⟨hl,hh⟩) h
   exact .inr (.inr ⟨hl.symm,ho.tri hl e this⟩)
  ·exact .inr (.inl (by omega))
theorem WS (ho:Zv lt) {st:Option (List Int)} {a b:List Int} (h1:Wt lt st a) (h2:a=b∨Hz lt a b):Wt lt st b:=by
 obtain⟨x,hx,h⟩:=h1
 refine⟨x,hx,?_⟩
 rcases h with rfl | h
 ·exact h2
 ·rcases h2 with rfl | h2
  ·exact .inr h
  ·exact .inr (IB ho h h2)
theorem dC (ho:Zv lt) (st:Option (List Int)) (x:List Int):Wt lt (upd lt st x) x:=by
 unfold upd
 cases st with
 | none=>exact⟨x,rfl,.inl rfl⟩
 | some b =>
  show Wt lt (if _ then _ else _) x
  by_cases h:x.length < b.length∨(x.length=b.length∧lt x b=true)
  ·rw[if_pos h];exact⟨x,rfl,.inl rfl⟩
  ·rw[if_neg h];exact⟨b,rfl,UA ho h⟩
theorem uR (ho:Zv lt) {st:Option (List Int)} {y:List Int} (x:List Int) (h:Wt lt st y):Wt lt (upd lt st x) y:=by
 obtain⟨b,rfl,hb⟩:=h
 unfold upd
 show Wt lt (if _ then _ else _) y
 by_cases h:x.length < b.length∨(x.length=b.length∧lt x b=true)
 ·rw[if_pos h]
  refine⟨x,rfl,.inr ?_⟩
  rcases hb with rfl | hb
  ·exact h
  ·exact IB ho h hb
 ·rw[if_neg h];exact⟨b,rfl,hb⟩
theorem QL (ho:Zv lt) {y:List Int}:∀ (C l:List Nat) (st:Option (List Int)),Wt lt st y→Wt lt (Ir lt n C l st) y
 | [],l,st,h=>uR ho _ h
 | c :: C, l, st, h => by
  unfold Ir
  by_cases h1:c=0∨Iq c l=true
  ·rw[if_pos h1];exact QL ho C l st h
  ·rw[if_neg h1]
   by_cases h2:Uz st l
   ·rw[if_pos h2];exact h
   ·rw[if_neg h2]
    have:∀ (B:List Nat) (st:Option (List Int)),Wt lt st y→Wt lt (B.foldl (fun st k=>Ir lt n C (l++[k]) st) st) y:=by
     intro B
     induction B with
     | nil=>exact fun st h=>h
     | cons k B ih=>exact fun st h=>ih _ (QL ho C (l++[k]) st h)
    exact this _ st h
theorem FN {H:List Nat} (h:H.Pairwise (· < ·)):H.Nodup:=h.imp fun h e=>by omega
theorem OO {l H:List Nat} (hl:l.Nodup) (hH:H.Nodup) (hs:l ⊆ H):(H.filter fun a=>decide (a∈l)).Perm l:=(List.perm_ext_iff_of_nodup (hH.filter _) hl).2 fun a=>by
 rw[List.mem_filter,decide_eq_true_iff]
 exact⟨fun h=>h.2,fun h=>⟨hs h,h⟩⟩
theorem Wu {l H:List Nat} (hl:l.Nodup) (hH:H.Nodup) (hs:l ⊆ H):l.length≤H.length:=by
 rw[←(OO hl hH hs).length_eq];exact List.length_filter_le _ _
theorem Zw {l H:List Nat} (hl:l.Nodup) (hH:H.Nodup) (hs:l ⊆ H) (he:l.length=H.length):l.Perm H:=by
 have h:=OO hl hH hs
 have h2:(H.filter fun a=>decide (a∈l)).length=H.length:=by rw[h.length_eq,he]
 rw[List.filter_eq_self.2 (List.length_filter_eq_length_iff.1 h2)] at h
 exact h.symm
theorem Zx {H:List Nat} (h:H.Pairwise (· < ·)):own H=ints H:=dB (by
 unfold ints
 rw[List.pairwise_map]
 exact h.imp fun h=>Int.ofNat_lt.2 h)
theorem KZ (ho:Zv lt) {H:List Nat} (hH:H.Pairwise (· < ·)) (hn:∀ k∈H,k < n):∀ (C l:List Nat) (st:Option (List Int)),bL C H→l.Nodup→l ⊆ H→Wt lt (Ir lt n C l st) (ints H)
 | [], l, st, _, hl, hs => by
  refine WS ho (dC ho st (own l)) ?_
  have h1:=Wu hl (FN hH) hs
  by_cases he:l.length=H.length
  ·left
   have hp:=Zw hl (FN hH) hs he
   rw[←Zx hH]
   exact KX (hp.map Int.ofNat)
  ·exact .inr (.inl (by rw[MM];simp[ints];omega))
 | c :: C, l, st, hC, hl, hs => by
  have hC':bL C H:=fun d hd=>hC d (by simp[hd])
  unfold Ir
  by_cases h1:c=0∨Iq c l=true
  ·rw[if_pos h1];exact KZ ho hH hn C l st hC' hl hs
  ·rw[if_neg h1]
   have hc:=(hC c (by simp)).resolve_left fun e=>h1 (.inl e)
   obtain⟨k,hk,hb⟩:=DT.1 hc
   have hkl:k ∉ l:=fun h=>h1 (.inr (DT.2 ⟨k,h,hb⟩))
   have hl':(l++[k]).Nodup:=List.nodup_append.2 ⟨hl,by simp,by intro a ha b hb e;rw[List.mem_singleton.1 hb] at e;rw[e] at ha;exact hkl ha⟩
   have hs':l++[k] ⊆ H:=fun a ha=>by
    rcases List.mem_append.1 ha with ha | ha
    ·exact hs ha
    ·rw[List.mem_singleton.1 ha];exact hk
   by_cases h2:Uz st l
   ·rw[if_pos h2]
    obtain⟨b,rfl,hb⟩:=h2
    have:=Wu hl' (FN hH) hs'
    refine⟨b,rfl,.inr (.inl ?_)⟩
    simp[ints] at *;omega
   ·rw[if_neg h2]
    have hkb:k∈AO n c:=by unfold AO;simp[hn k hk,hb]
    obtain⟨A,B,hAB⟩:=List.append_of_mem hkb
    rw[hAB,List.foldl_append,List.foldl_cons]
    have:∀ (B:List Nat) (st:Option (List Int)),Wt lt st (ints H)→Wt lt (B.foldl (fun st k=>Ir lt n C (l++[k]) st) st) (ints H):=by
     intro B
     induction B with
     | nil=>exact fun st h=>h
     | cons k B ih=>exact fun st h=>ih _ (QL ho C (l++[k]) st h)
    exact this B _ (KZ ho hH hn C (l++[k]) _ hC' hl' hs')
theorem K9 {G:List Int→Prop}:∀ (C l:List Nat) (st:Option (List Int)),l.Nodup→(∀ k∈l,k < n)→(∀ x,st=some x→G x)→(∀ m:List Nat,m.Nodup→(∀ k∈m,k < n)→l ⊆ m→bL C m→G (own m))→∀ x,Ir lt n C l st=some x→G x
 | [], l, st, hl, hn, hst, hG, x, hx => by
  have h0:G (own l):=hG l hl hn (fun _ h=>h) (fun _ h=>by cases h)
  unfold Ir upd at hx
  cases st with
  | none=>injection hx with hx;rw[←hx];exact h0
  | some b =>
   replace hx:(if _ then _ else _)=some x:=hx
   by_cases h:(own l).length < b.length∨((own l).length=b.length∧lt (own l) b=true)
   ·rw[if_pos h] at hx;injection hx with hx;rw[←hx];exact h0
   ·rw[if_neg h] at hx;exact hst x hx
 | c :: C, l, st, hl, hn, hst, hG, x, hx => by
  unfold Ir at hx
  by_cases h1:c=0∨Iq c l=true
  ·rw[if_pos h1] at hx
   exact K9 C l st hl hn hst (fun m h2 h3 h4 h5=>hG m h2 h3 h4 fun d hd=>by
    rcases List.mem_cons.1 hd with rfl | hd
    ·exact h1.imp id fun h=>K8 h4 h
    ·exact h5 d hd) x hx
  ·rw[if_neg h1] at hx
   by_cases h2:Uz st l
   ·rw[if_pos h2] at hx;exact hst x hx
   ·rw[if_neg h2] at hx
    have key:∀ (B:List Nat),(∀ k∈B,k∈AO n c)→∀ st:Option (List Int),(∀ x,st=some x→G x)→∀ x,B.foldl (fun st k=>Ir lt n C (l++[k]) st) st=some x→G x:=by
     intro B
     induction B with
     | nil=>exact fun _ st h=>h
     | cons k B ih =>
      intro hB st h
      have hk:=hB k (by simp)
      unfold AO at hk
      obtain⟨hk1,hk2⟩:=List.mem_filter.1 hk
      have hkn:=List.mem_range.1 hk1
      have hkl:k ∉ l:=fun g=>h1 (.inr (DT.2 ⟨k,g,hk2⟩))
      refine ih (fun a ha=>hB a (by simp[ha])) _ ?_
      refine K9 C (l++[k]) st (List.nodup_append.2 ⟨hl,by simp,by intro a ha b hb e;rw[List.mem_singleton.1 hb] at e;rw[e] at ha;exact hkl ha⟩) (fun a ha=>?_) h fun m g1 g2 g3 g4=>?_
      ·rcases List.mem_append.1 ha with ha | ha
       ·exact hn a ha
       ·rw[List.mem_singleton.1 ha];exact hkn
      ·refine hG m g1 g2 (fun a ha=>g3 (by simp[ha])) fun d hd=>?_
       rcases List.mem_cons.1 hd with rfl | hd
       ·exact .inr (DT.2 ⟨k,g3 (by simp),hk2⟩)
       ·exact g4 d hd
    exact key _ (fun k h=>h) st hst x hx
structure O7 (lt:List Int→List Int→Bool) (n:Nat) (C:List Nat) (H:List Nat):Prop where
 asc:H.Pairwise (· < ·)
 rng:∀ k∈H,k < n
 hit:bL C H
 least:∀ K:List Nat,K.Pairwise (· < ·)→(∀ k∈K,k < n)→bL C K→H=K∨Hz lt (ints H) (ints K)
theorem Zy {a b:List Nat} (h:ints a=ints b):a=b:=by
 unfold ints at h
 have:(a.map Int.ofNat).map Int.toNat=(b.map Int.ofNat).map Int.toNat:=by rw[h]
 simpa [Function.comp_def] using this
theorem O7.uniq (ho:Zv lt) {C H K:List Nat} (h1:O7 lt n C H) (h2:O7 lt n C K):H=K:=by
 rcases h1.least K h2.asc h2.rng h2.hit with h | h
 ·exact h
 ·rcases h2.least H h1.asc h1.rng h1.hit with g | g
  ·exact g.symm
  ·exfalso
   have:=IB ho h g
   unfold Hz at this
   rw[ho.irr] at this
   rcases this with h | ⟨_,h⟩
   ·omega
   ·cases h
theorem Zz {m:List Nat} (hm:m.Nodup) (hn:∀ k∈m,k < n):∃ H:List Nat,H.Pairwise (· < ·)∧H.Perm m∧(∀ k∈H,k < n)∧own m=ints H:=by
 have h0:((List.range n).filter fun k=>m.contains k).Pairwise (· < ·):=List.pairwise_lt_range.filter _
 have hp:((List.range n).filter fun k=>m.contains k).Perm m:=(List.perm_ext_iff_of_nodup (FN h0) hm).2 fun a=>by
  rw[List.mem_filter,List.mem_range]
  constructor
  ·rintro⟨_,h⟩;simpa using h
  ·exact fun h=>⟨hn a h,by simpa using h⟩
 refine⟨_,h0,hp,fun k hk=>hn k (hp.mem_iff.1 hk),?_⟩
 rw[←Zx h0]
 exact KX (hp.map Int.ofNat).symm
theorem WT (ho:Zv lt) {C:List Nat} (hC:∀ c∈C,c < 2 ^ n):∃ H,Ir lt n C [] none=some (ints H)∧O7 lt n C H:=by
 have hall:bL C (List.range n):=fun c hc=>by
  by_cases h:c=0
  ·exact .inl h
  ·right
   obtain⟨k,hk⟩:=Nat.exists_testBit_of_ne_zero h
   refine DT.2 ⟨k,List.mem_range.2 ?_,hk⟩
   apply Classical.byContradiction
   intro hkn
   have:=Nat.testBit_lt_two_pow (x:=c) (i:=k) (Nat.lt_of_lt_of_le (hC c hc) (Nat.pow_le_pow_right (by omega) (by omega)))
   rw[this] at hk;cases hk
 obtain⟨b,hb,_⟩:=KZ ho (H:=List.range n) List.pairwise_lt_range (fun k h=>List.mem_range.1 h) C [] none hall (by simp) (by simp)
 obtain⟨m,h1,h2,h3,rfl⟩:=K9 (lt:=lt) (n:=n) (G:=fun x=>∃ m:List Nat,m.Nodup∧(∀ k∈m,k < n)∧bL C m∧x=own m) C [] none (by simp) (by simp) (by simp) (fun m g1 g2 _ g4=>⟨m,g1,g2,g4,rfl⟩) b hb
 obtain⟨H,a1,a2,a3,a4⟩:=Zz h1 h2
 rw[a4] at hb
 refine⟨H,hb,a1,a3,fun c hc=>(h3 c hc).imp id fun h=>K8 a2.symm.subset h,fun K k1 k2 k3=>?_⟩
 obtain⟨x,hx,h⟩:=KZ ho k1 k2 C [] none k3 (by simp) (by simp)
 rw[hb] at hx
 injection hx with hx
 subst hx
 exact h.imp Zy id
end Go.BkH
namespace Go.BkH
theorem QM (m k j:Nat):(2 ^ (k+1)*m+2 ^ k).testBit j=if j < k+1 then decide (j=k) else m.testBit (j - (k+1)):=by
 have h:2 ^ k < 2 ^ (k+1):=Nat.pow_lt_pow_right (by omega) (by omega)
 rw[Nat.testBit_two_pow_mul_add _ h,Nat.testBit_two_pow]
 by_cases hj:j < k+1
 ·rw[if_pos hj,if_pos hj]
  by_cases e:j=k
  ·simp[e]
  ·simp[e];omega
 ·rw[if_neg hj,if_neg hj]
theorem SF (m k j:Nat):(2 ^ (k+1)*m+2 ^ k - 1).testBit j=if j < k+1 then decide (j < k) else m.testBit (j - (k+1)):=by
 have h0:1≤2 ^ k:=Nat.one_le_two_pow
 have h:2 ^ k - 1 < 2 ^ (k+1):=Nat.lt_of_le_of_lt (Nat.sub_le _ _) (Nat.pow_lt_pow_right (by omega) (by omega))
 rw[show 2 ^ (k+1)*m+2 ^ k - 1=2 ^ (k+1)*m+(2 ^ k - 1) from by omega,Nat.testBit_two_pow_mul_add _ h,Nat.testBit_two_pow_sub_one]
theorem ZA {c:Nat} (h:c≠0):∃ m k,c=2 ^ (k+1)*m+2 ^ k:=by
 induction c using Nat.strongRecOn with
 | _ c ih =>
  by_cases he:c % 2=0
  ·obtain⟨m,k,e⟩:=ih (c / 2) (by omega) (by omega)
   refine⟨m,k+1,?_⟩
   have:c=2*(c / 2):=by omega
   rw[this,e,Nat.pow_succ 2 (k+1),Nat.pow_succ 2 k]
   rw[Nat.mul_add]
   have e1:2*(2 ^ k*2*m)=2 ^ k*2*2*m:=by rw[Nat.mul_comm (2 ^ k*2) 2,Nat.mul_assoc 2,]
   omega
  ·exact⟨c / 2,0,by simp;omega⟩
end Go.BkH
set_option maxRecDepth 100000
set_option maxHeartbeats 4000000
namespace Go.BkQ
open Go Go.Sp Go.BkSM Go.BkH
def O8 (x:List Int):Nat→Nat→List Nat→Nat
 | _,z,[]=>z
 | i,z,k::r=>O8 x (i+1) (if x.getD k 0=x.getD i 0 then z else z ||| 2 ^ i) r
def Kg (x:List Int) (row:List Nat):Nat:=O8 x 0 0 row
theorem SG (x:List Int):∀ (r:List Nat) (i z b:Nat),(O8 x i z r).testBit b=(z.testBit b || (decide (i≤b) && decide (b < i+r.length) && decide (x.getD (r.getD (b - i) 0) 0≠x.getD b 0)))
 | [], i, z, b => by
  unfold O8
  by_cases h:i≤b
  ·rw[decide_eq_true h,decide_eq_false (show ¬ b < i+([]:List Nat).length from by simp;omega)];simp
  ·rw[decide_eq_false h];simp
 | k :: r, i, z, b => by
  unfold O8
  rw[SG x r (i+1)]
  by_cases e:b=i
  ·subst e
   rw[decide_eq_false (show ¬ b+1≤b from by omega),decide_eq_true (Nat.le_refl b),decide_eq_true (show b < b+(k::r).length from by simp),Nat.sub_self]
   by_cases h:x.getD k 0=x.getD b 0
   ·rw[if_pos h];simp at h ⊢;simp[h]
   ·rw[if_neg h,Nat.testBit_or,Nat.testBit_two_pow];simp at h ⊢;simp[h]
  ·have h1 : (if x.getD k 0 = x.getD i 0 then z else z ||| 2 ^ i).testBit b = z.testBit b := by
    split
    ·rfl
    ·rw[Nat.testBit_or,Nat.testBit_two_pow,decide_eq_false (fun h=>e h.symm),Bool.or_false]
   rw[h1]
   congr 1
   by_cases h:i≤b
   ·rw[decide_eq_true h,decide_eq_true (show i+1≤b from by omega),show b - i=(b - (i+1))+1 from by omega,List.getD_cons_succ]
    congr 2
    exact decide_eq_decide.2 (by simp;omega)
   ·rw[decide_eq_false h,decide_eq_false (show ¬ i+1≤b from by omega)];rfl
theorem dP (x:List Int) (row:List Nat) (b:Nat):(Kg x row).testBit b=(decide (b < row.length) && decide (x.getD (row.getD b 0) 0≠x.getD b 0)):=by
 unfold Kg
 rw[SG];simp
theorem QN (x:List Int) (row:List Nat):Kg x row < 2 ^ row.length:=by
 refine Nat.lt_pow_two_of_testBit _ fun i hi=>?_
 rw[dP,decide_eq_false (by omega)];rfl
theorem AdC {k:Nat} (hk:k < 16):QW .u16 (1:Int) k = .ofNat (2 ^ k):=by
 have:k=0∨k=1∨k=2∨k=3∨k=4∨k=5∨k=6∨k=7∨k=8∨k=9∨k=10∨k=11∨k=12∨k=13∨k=14∨k=15:=by omega
 rcases this with rfl | rfl | rfl | rfl | rfl | rfl | rfl | rfl | rfl | rfl | rfl | rfl | rfl | rfl | rfl | rfl <;> rfl
theorem SI {k:Nat} (hk:k < 16):2 ^ k < 65536:=by
 have:2 ^ k < 2 ^ 16:=Nat.pow_lt_pow_right (by omega) hk
 simpa using this
theorem ZB {a b:Nat} (ha:a < 65536) (hb:b < 65536):Nl .u16 a b=true:=by unfold Nl;simp[GA];omega
theorem AdD {z k:Nat} (hk:k < 16) (hz:z < 65536):jF .u16 (.ofNat z) (QW .u16 (1:Int) k) = .ofNat (z ||| 2 ^ k):=by
 rw[AdC hk]
 show bb (Nl .u16 z (2 ^ k)) (Int.ofNat (Nat.lor z (2 ^ k))) (YD .u16 (.ofNat z) (.ofNat (2 ^ k))) = .ofNat (z ||| 2 ^ k)
 rw[ZB hz (SI hk)];rfl
theorem Wv {a b:Nat} (ha:a < 65536) (hb:b < 65536):Np .u16 (.ofNat a) (.ofNat b) = .ofNat (a &&& b):=by
 show bb (Nl .u16 a b) (Int.ofNat (Nat.land a b)) (PR .u16 (.ofNat a) (.ofNat b)) = .ofNat (a &&& b)
 rw[ZB ha hb];rfl
theorem JO (pu:Af) (M f:Nat) {row:List Nat} {x:List Int} (hx:row.length=x.length) (hx16:x.length≤16) (hr:∀ k∈row,k < x.length):∀ (rest:List Nat) (w i z:Nat),row.drop i=rest→rest.length < w→z < 65536 →
 LQ pu M w (sl f x) (.ofNat z) ⟨len row,0,Gt row⟩ (.ofNat (len row)) (.ofNat i)=some (.int .u16 (.ofNat (O8 x i z rest)))
 | _,0,_,_,_,h,_=>by omega
 | [], w + 1, i, z, hd, _, _ => by
  have h1:row.length≤i:=List.drop_eq_nil_iff.1 hd
  show bb (AY (.ofNat i) (.ofNat (len row))) _ (some (Value.int .u16 (.ofNat z)))=_
  rw[Dr,AV,decide_eq_false (by omega),AA];rfl
 | k :: rest, w + 1, i, z, hd, hw, hz => by
  obtain⟨hget,hd2,hi⟩:=Wo hd
  have hrl:(k::rest).length=rest.length+1:=rfl
  have hk:=hr k (List.mem_of_mem_drop (i:=i) (by rw[hd];exact List.mem_cons_self))
  have hi3:i < x.length:=by omega
  have e1:x.getD k 0=x[k]:=by simp[List.getD_eq_getElem?_getD,hk]
  have e2:x.getD i 0=x[i]:=by simp[List.getD_eq_getElem?_getD,hi3]
  have ih:=fun z hz=>JO pu M f hx hx16 hr rest w (i+1) z hd2 (by omega) hz
  show Sg pu M (LQ pu M w) (sl f x) (.ofNat z) ⟨len row,0,Gt row⟩ (.ofNat (len row)) (.ofNat i)=_
  unfold Sg Sd O8
  simp only[FY (show i < len row from by rw[AV];exact hi),Ak,Cx,Ac,FM (show i < len row from by rw[AV];exact hi),hget,BP,I4,GX,FM hk,FM hi3,LY hk,LY hi3,DL,DC i (by omega),AdD (show i < 16 from by omega) hz,e1,e2]
  by_cases h:x[k]=x[i]
  ·rw[decide_eq_true h,show nt true=false from rfl,AA,if_pos h];exact ih z hz
  ·rw[decide_eq_false h,show nt false=true from rfl,Ak,if_neg h]
   exact ih _ (Nat.or_lt_two_pow (n:=16) hz (SI (by omega)))
theorem L6 (n f fl:Nat) {r c k t i:Nat} {us:List Nat} {x:List Int} (hg:(r,c,us)∈BB) (hi:us[i]?=some t) (hx:x.length=r*c) :
 Bp (n+1) 36 [WM r c k fl us,S f x,I (.ofNat i)]=some (.int .u16 (.ofNat (Kg x (cellL r c t)))):=by
 have hp:=Co hg
 have ht:=List.mem_of_getElem? hi
 obtain⟨_,h1,h2⟩:=hp.row t ht
 have hrc:r*c≤16:=Nat.mul_le_mul hp.r4 hp.c4
 have g1:=JO (Bp n) L f (row:=cellL r c t) (x:=x) (by omega) (by omega) (fun j hj=>by rw[hx];exact h2 j hj) _ L 0 0 rfl (by rw[List.drop_zero,h1];show _ < 1000000;omega) (by omega)
 rw[List.drop_zero] at g1
 rw[p51]
 have hii:i < us.length:=(List.getElem?_eq_some_iff.1 hi).1
 have hn:AL (V9 r c us) (i*1)=some (Ub (cellL r c t)):=by
  rw[BZ,Nat.mul_one,show V9 r c us=us.map fun t=>Ub (cellL r c t) from Cc _ _,List.getElem?_map,hi];rfl
 show bb (an (Nat.blt i (len us)) true) (oo (AL (V9 r c us) (i*1)) none fun v5490=>(oo (Bj 1 v5490) none fun s5492=>(LQ (Bp n) L L (sl f x) (0:Int) s5492 (Int.ofNat (Sl.n s5492)) (0:Int)))) none=_
 rw[show Nat.blt i (len us)=true from by rw[blt_eq,AV];simpa using hii,show an true true=true from rfl,Ak,hn,Ac]
 exact g1
theorem AdE {c:Nat} (h0:c≠0) (hc:c < 65536):Aj .u16 (Int.sub (.ofNat 0) (.ofNat c)) = .ofNat (65536 - c):=by
 rw[IM,IntKind.wrap_u16]
 show ((0:Int) - (c:Int)) % 65536=((65536 - c:Nat):Int)
 omega
theorem AdF {c:Nat} (h0:c≠0) (hc:c < 65536):Aj .u16 (Int.sub (.ofNat c) 1) = .ofNat (c - 1):=by
 rw[IM,IntKind.wrap_u16]
 show ((c:Int) - 1) % 65536=((c - 1:Nat):Int)
 omega
theorem and_neg {m k:Nat} (hc:2 ^ (k+1)*m+2 ^ k < 65536):(2 ^ (k+1)*m+2 ^ k) &&& (65536 - (2 ^ (k+1)*m+2 ^ k))=2 ^ k:=by
 have h0:1≤2 ^ k:=Nat.one_le_two_pow
 apply Nat.eq_of_testBit_eq
 intro j
 have e:65536 - (2 ^ (k+1)*m+2 ^ k)=2 ^ 16 - ((2 ^ (k+1)*m+2 ^ k - 1)+1):=by omega
 rw[Nat.testBit_and,e,Nat.testBit_two_pow_sub_succ (by omega),SF,QM,Nat.testBit_two_pow]
 by_cases hj:j < k+1
 ·rw[if_pos hj,if_pos hj]
  have hk16:k < 16:=(Nat.pow_lt_pow_iff_right (a:=2) (by omega)).1 (by omega:2 ^ k < 2 ^ 16)
  by_cases ek:j=k
  ·subst ek;simp[hk16]
  ·simp[ek,show ¬ k=j from fun h=>ek h.symm]
 ·rw[if_neg hj,if_neg hj,decide_eq_false (by omega:¬ k=j)]
  cases m.testBit (j - (k+1)) <;> simp
theorem dQ (m k:Nat):(2 ^ (k+1)*m+2 ^ k) &&& (2 ^ (k+1)*m+2 ^ k - 1)=2 ^ (k+1)*m:=by
 apply Nat.eq_of_testBit_eq
 intro j
 rw[Nat.testBit_and,SF,QM,Nat.testBit_two_pow_mul]
 by_cases hj:j < k+1
 ·rw[if_pos hj,if_pos hj,decide_eq_false (by omega:¬ j ≥ k+1)]
  by_cases ek:j=k
  ·subst ek;simp
  ·rw[decide_eq_false ek];rfl
 ·rw[if_neg hj,if_neg hj,decide_eq_true (by omega:j ≥ k+1)]
  cases m.testBit (j - (k+1)) <;> rfl
theorem ZC {n m k:Nat} (hk:k < n):AO n (2 ^ (k+1)*m+2 ^ k)=k::AO n (2 ^ (k+1)*m):=by
 have h1:(AO n (2 ^ (k+1)*m+2 ^ k)).Pairwise (· < ·):=List.pairwise_lt_range.filter _
 have h2:(AO n (2 ^ (k+1)*m)).Pairwise (· < ·):=List.pairwise_lt_range.filter _
 have hb:∀ j,(2 ^ (k+1)*m).testBit j=true→k+1≤j:=fun j h=>by
  rw[Nat.testBit_two_pow_mul] at h
  by_cases hj:k+1≤j
  ·exact hj
  ·rw[decide_eq_false (by omega:¬ j ≥ k+1)] at h;cases h
 have h3:(k::AO n (2 ^ (k+1)*m)).Pairwise (· < ·):=List.pairwise_cons.2 ⟨fun j hj=>by
  unfold AO at hj
  have:=hb j (List.mem_filter.1 hj).2
  omega,h2⟩
 refine List.Perm.eq_of_pairwise (le:=(· < ·)) (fun a b _ _ h1 h2=>absurd h1 (by omega)) h1 h3 ((List.perm_ext_iff_of_nodup (FN h1) (FN h3)).2 fun j=>?_)
 unfold AO
 rw[List.mem_cons,List.mem_filter,List.mem_filter,List.mem_range,QM,Nat.testBit_two_pow_mul]
 by_cases hj:j < k+1
 ·rw[if_pos hj,decide_eq_false (by omega:¬ j ≥ k+1)]
  simp
  intro h;omega
 ·rw[if_neg hj,decide_eq_true (by omega:j ≥ k+1)]
  simp
  intro h;omega
theorem AeH (k:Nat) (args:List Value):Bp (k+1) 47 args=m47 (Bp k) L args:=by kernel_rfl
noncomputable def tz (e:Nat):Option Value:=(oo (EA (G6 .u32 (Aj .u32 (Int.mul (Aj .u32 (.ofNat e)) (125613361:Int))) 27)) none fun k10163=>(bb (Nat.blt k10163 32) (oo (AL OY (0+k10163*1)) none fun v10166=>(oo (Bi .u8 v10166) none fun x10168=>(some (Value.int .i64 (Aj .i64 x10168))))) none))
noncomputable def tzB (k:Nat):Bool:=oo (tz (Nat.pow 2 k)) false fun v=>oo (Bi .i64 v) false fun x=>Bd x (.ofNat k)
theorem UB:Au tzB (upN 16)=true:=by kernel_rfl
theorem uS {k:Nat} (hk:k < 16):tz (2 ^ k)=some (I (.ofNat k)):=by
 have h:=UB
 rw[Bh,List.all_eq_true] at h
 have h:=h k (by rw[Kc];exact List.mem_range.2 hk)
 have h:oo (tz (2 ^ k)) false (fun v=>oo (Bi .i64 v) false fun x=>Bd x (.ofNat k))=true:=h
 cases e:tz (2 ^ k) with
 | none=>rw[e] at h;cases h
 | some v =>
  rw[e,Ac] at h
  cases e2:Bi .i64 v with
  | none=>rw[e2] at h;cases h
  | some x =>
   rw[e2,Ac,DL] at h
   rw[Eh e2,of_decide_eq_true h]
theorem ZE (n:Nat) {m k:Nat} (hc:2 ^ (k+1)*m+2 ^ k < 65536):Bp (n+1) 47 [.int .u16 (.ofNat (2 ^ (k+1)*m+2 ^ k))]=some (I (.ofNat k)):=by
 have h0:1≤2 ^ k:=Nat.one_le_two_pow
 have hk16:k < 16:=(Nat.pow_lt_pow_iff_right (a:=2) (by omega)).1 (by omega:2 ^ k < 2 ^ 16)
 have ha:=and_neg hc
 rw[AeH]
 show bT (Bp n) L (.ofNat (2 ^ (k+1)*m+2 ^ k))=_
 generalize 2 ^ (k+1)*m+2 ^ k=c at *
 unfold bT
 have hz:Bd (Int.ofNat c) 0=false:=by
  rw[DL];exact decide_eq_false fun e=>by have:Int.ofNat c=Int.ofNat 0:=e;have:=Int.ofNat.inj this;rw[this] at ha;simp at ha;omega
 have hc0:c≠0:=fun e=>by rw[e] at ha;simp at ha;omega
 rw[hz,AA,AdE hc0 hc,Wv hc (by omega),ha]
 exact uS hk16
theorem dR {m k:Nat} (hc:2 ^ (k+1)*m+2 ^ k < 65536):Np .u16 (.ofNat (2 ^ (k+1)*m+2 ^ k)) (Aj .u16 (Int.sub (.ofNat (2 ^ (k+1)*m+2 ^ k)) (1:Int))) = .ofNat (2 ^ (k+1)*m):=by
 have h0:1≤2 ^ k:=Nat.one_le_two_pow
 rw[AdF (by omega) hc,Wv hc (by omega),dQ]
theorem AdG {c k:Nat} (hc:c < 65536) (hk:k < 16):Bd (Np .u16 (G6 .u16 (.ofNat c) k) (1:Int)) (1:Int)=c.testBit k:=by
 have e1:G6 .u16 (.ofNat c) k = .ofNat (c / 2 ^ k):=by
  show Int.ofNat (Nat.div c (Nat.pow 2 (Nat.min k 16)))=_
  rw[show Nat.min k 16=k from Nat.min_eq_left (by omega)];rfl
 rw[e1,show (1:Int) = .ofNat 1 from rfl,Wv (Nat.lt_of_le_of_lt (Nat.div_le_self _ _) hc) (by omega),Eb,Nat.testBit_eq_decide_div_mod_eq,Nat.and_one_is_mod]
 by_cases h:c / 2 ^ k % 2=1
 ·rw[h];rfl
 ·rw[decide_eq_false h]
  have:c / 2 ^ k % 2=0:=by omega
  rw[this];rfl
end Go.BkQ
set_option maxRecDepth 100000
set_option maxHeartbeats 4000000
namespace Go.BkQ
open Go Go.Sp Go.BkSM Go.BkH
def Po:List Int→Nat
 | []=>2
 | _::_=>0
noncomputable def slN (l:List Int):Sl:=⟨l.length,Po l,l.map I⟩
theorem Um (k:Nat) (args:List Value):Bp (k+1) 10420 args=K5 (Bp k) L args:=by kernel_rfl
theorem Ul (k:Nat) (args:List Value):Bp (k+1) 10610 args=K4 (Bp k) L args:=by kernel_rfl
theorem Uk (k:Nat) (args:List Value):Bp (k+1) 10410 args=K3 (Bp k) L args:=by kernel_rfl
theorem Un (k:Nat) (args:List Value):Bp (k+1) 10440 args=K6 (Bp k) L args:=by kernel_rfl
theorem QC (k:Nat) (args:List Value):Bp (k+1) 10400 args=Kb (Bp k) L args:=by kernel_rfl
theorem q20 (k:Nat) (args:List Value):Bp (k+1) 20 args=m20 (Bp k) L args:=by kernel_rfl
theorem AeI (k:Nat) (args:List Value):Bp (k+1) 46 args=m46 (Bp k) L args:=by kernel_rfl
theorem uT (n:Nat) {c k:Nat} (hc:c < 65536) (hk:k < 16):Bp (n+1) 10420 [I (.ofNat k),.pointer (some ⟨1,0,none⟩),.agg ⟨[.int .u16 (.ofNat c)]⟩]=some (.tuple ⟨[.bool (c.testBit k),.agg ⟨[.int .u16 (.ofNat c)]⟩]⟩):=by
 rw[Um]
 show Jj (Bp n) L (.ofNat k) (.ofNat c)=_
 unfold Jj
 rw[Cx,Ac,AdG hc hk]
theorem MF (n M:Nat) {c:Nat} (hc:c < 65536) (l:List Nat) (hl:∀ k∈l,k < 16) (hl2:l.length < 1000):∀ (d w i:Nat),i+d=l.length→d < w →
 ∃ z:Int,Gw (Bp (n+1)) M w (slN (ints l)) (.ofNat l.length) (.ofNat i) (.ofNat c)=some (.tuple ⟨[I z,.agg ⟨[.int .u16 (.ofNat c)]⟩]⟩)∧nt (AY z 0)=Iq c (l.drop i)
 | _,0,_,_,h=>by omega
 | 0, w + 1, i, hd, _ => by
  refine⟨-1,?_,?_⟩
  ·show Gv (Bp (n+1)) M (Gw (Bp (n+1)) M w) (slN (ints l)) (.ofNat l.length) (.ofNat i) (.ofNat c)=_
   unfold Gv
   simp only[Fp (show ¬ i < l.length from by omega),AA]
   rfl
  ·rw[List.drop_eq_nil_of_le (by omega)];rfl
 | d + 1, w + 1, i, hd, hw => by
  have h1:i < l.length:=by omega
  have hn:(slN (ints l)).n=l.length:=by show (ints l).length=_;simp[ints]
  have hg:AL (slN (ints l)).cs (i*1)=some (I (.ofNat l[i])):=by
   show AL ((ints l).map I) (i*1)=_
   rw[BZ,Nat.mul_one];simp[ints,h1]
  have hb:=uT n hc (hl _ (List.getElem_mem h1))
  have e:Iq c (l.drop i)=(c.testBit l[i] || Iq c (l.drop (i+1))):=by
   rw[List.drop_eq_getElem_cons h1];rfl
  obtain⟨z,ih1,ih2⟩:=MF n M hc l hl hl2 d w (i+1) (by omega) (by omega)
  show ∃ z:Int,Gv (Bp (n+1)) M (Gw (Bp (n+1)) M w) (slN (ints l)) (.ofNat l.length) (.ofNat i) (.ofNat c)=_∧_
  unfold Gv
  simp only[FY h1,Ak,Cx,Ac,hn,FM h1,hg,BP,hb,FW,Dj,EG,BU,RL,show ∀ q:Int,Bi .u16 (.int .u16 q)=some q from fun _=>rfl,DC i (by omega),e]
  cases c.testBit l[i] with
  | true=>exact⟨.ofNat i,rfl,rfl⟩
  | false =>
   refine⟨z,?_,by rw[ih2];rfl⟩
   rw[AA];exact ih1
theorem uU (n:Nat) {c:Nat} (hc:c < 65536) (l:List Nat) (hl:∀ k∈l,k < 16) (hl2:l.length < 1000):Bp (n+3) 10410 [Sl.v 1 (slN (ints l)),.func (.func 42) ⟨[]⟩ ⟨[.pointer (some ⟨1,0,none⟩)]⟩,.agg ⟨[.int .u16 (.ofNat c)]⟩]=some (.tuple ⟨[.bool (Iq c l),.agg ⟨[.int .u16 (.ofNat c)]⟩]⟩):=by
 obtain⟨z,h1,h2⟩:=MF n L hc l hl hl2 l.length L 0 (by omega) (by show _ < 1000000;omega)
 rw[List.drop_zero] at h2
 have h3:Bp (n+2) 10610 [Sl.v 1 (slN (ints l)),.func (.func 42) ⟨[]⟩ ⟨[.pointer (some ⟨1,0,none⟩)]⟩,.agg ⟨[.int .u16 (.ofNat c)]⟩]=some (.tuple ⟨[I z,.agg ⟨[.int .u16 (.ofNat c)]⟩]⟩):=by
  rw[Ul]
  have hn:(slN (ints l)).n=l.length:=by show (ints l).length=_;simp[ints]
  show Gw (Bp (n+1)) L L (slN (ints l)) (Int.ofNat (slN (ints l)).n) 0 (.ofNat c)=_
  rw[hn];exact h1
 rw[Uk]
 show Ji (Bp (n+2)) L (slN (ints l)) (.ofNat c)=_
 unfold Ji
 simp only[h3,Ac,FW,Dj,EG,BP,RL,show ∀ q:Int,Bi .u16 (.int .u16 q)=some q from fun _=>rfl,h2]
def Ke:Option (List Int)→Int
 | none=>64
 | some b=>.ofNat b.length
noncomputable def Jg:Option (List Int)→Sl
 | none=>⟨0,2,[]⟩
 | some b=>slN b
noncomputable def AdH:Value:=(.func (.func 40) ⟨[]⟩ ⟨[.pointer (some ⟨1,0,none⟩),.pointer (some ⟨2,0,none⟩),.pointer (some ⟨3,0,none⟩),.pointer (some ⟨4,0,none⟩),.pointer (some ⟨5,0,none⟩)]⟩)
noncomputable def objs (r c k f g:Nat) (us:List Nat) (x:List Int) (st:Option (List Int)):List Value:=[.agg ⟨[Cv 0 (Gy r c k f us)]⟩,.agg ⟨[S g x]⟩,.agg ⟨[I (Ke st)]⟩,.agg ⟨[Sl.v 1 (Jg st)]⟩,.agg ⟨[AdH]⟩]
noncomputable def QO (r c k f g:Nat) (us:List Nat) (x:List Int) (l:List Nat) (i:Nat) (st:Option (List Int)):List Value:=[Sl.v 1 (slN (ints l)),I (.ofNat i),.pointer (some ⟨1,0,none⟩),.pointer (some ⟨2,0,none⟩),.pointer (some ⟨3,0,none⟩),.pointer (some ⟨4,0,none⟩),.pointer (some ⟨5,0,none⟩)]++objs r c k f g us x st
noncomputable def I9 (r c k f g:Nat) (us:List Nat) (x:List Int) (st:Option (List Int)):Value:=.tuple ⟨.tuple ⟨[]⟩::objs r c k f g us x st⟩
theorem ZF (pu:Af) (r c k f g:Nat) (us:List Nat) (x:List Int) (l:List Nat) (i:Nat) (st:Option (List Int)):Kb pu L (QO r c k f g us x l i st)=FL pu L L (slN (ints l)) (.ofNat i) 0 (Gy r c k f us) (sl g x) (Ke st) (Jg st):=rfl
theorem SK (r c k f:Nat) (us:List Nat):AL (Gy r c k f us) (0+0+3)=some (Sl.v 1 ⟨len us,f,Gt us⟩):=rfl
theorem uV (n:Nat) (l:List Int):Bp (n+1) 46 [Sl.v 1 (slN l)]=some (Sl.v 1 (KY 1 (slN l))):=by
 rw[AeI]
 show bS (Bp n) L (slN l)=_
 unfold bS
 cases l with
 | nil=>rfl
 | cons a l=>rfl
theorem Ww (l:List Int):(KY 1 (slN l)).n=l.length∧(KY 1 (slN l)).cs=l.map I∧Dp (Nat.beq (KY 1 (slN l)).fl 1) (Nat.beq (KY 1 (slN l)).fl 2)=true:=by
 cases l with
 | nil=>exact⟨rfl,rfl,rfl⟩
 | cons a l =>
  refine⟨rfl,?_,rfl⟩
  show Aq (((a::l).length - 0)*1) (Am (0*1) ((a::l).map I))=_
  rw[Cg,Bz,Nat.zero_mul,List.drop_zero,Nat.sub_zero,Nat.mul_one,List.take_of_length_le (by simp)]
theorem dS (l:List Nat):(⟨len (ints l),bb (MQ (ints l)) 2 0,AP Dy (Cs (ints l))⟩:Sl)=slN (own l):=by
 have h1:len (ints l)=(own l).length:=by rw[AV,MM];simp[ints]
 have h2:bb (MQ (ints l)) 2 0=Po (own l):=by
  cases l with
  | nil=>rw[show own []=[] from List.mergeSort_nil];rfl
  | cons a l =>
   have h:=MM (a::l)
   cases e:own (a::l) with
   | nil=>rw[e] at h;simp at h
   | cons b m=>rfl
 rw[h1,h2,Cc];rfl
theorem WU (l:List Int):CG (Bi .i64) (l.map I)=some l:=by
 induction l with
 | nil=>rfl
 | cons a l ih =>
  show oo (some a) none (fun b=>oo (CG (Bi .i64) (l.map I)) none fun bs=>some (b::bs))=_
  rw[ih];rfl
section
variable {r c k f g:Nat} {us:List Nat} {x:List Int}
noncomputable def C8 (r c:Nat) (x:List Int) (us:List Nat):List Nat:=us.map fun t=>Kg x (cellL r c t)
theorem ZG {i:Nat} (hi:i < us.length):(C8 r c x us).drop i=Kg x (cellL r c us[i])::(C8 r c x us).drop (i+1):=by
 unfold C8
 rw[List.drop_eq_getElem_cons (by simpa using hi)];simp
theorem uW (hg:(r,c,us)∈BB) {i:Nat} (hi:i < us.length):Kg x (cellL r c us[i]) < 2 ^ (r*c):=by
 have:=QN x (cellL r c us[i])
 rwa [((Co hg).row _ (List.getElem_mem hi)).2.1] at this
theorem uX (n M:Nat) (hg:(r,c,us)∈BB) (l:List Nat) (hl:l.length≤8) (st:Option (List Int)) :
 FK (Bp (n+4)) M (slN (ints l)) (.ofNat us.length) 0 (Gy r c k f us) (sl g x) (Ke st) (Jg st)=some (I9 r c k f g us x (upd Iz st (own l))):=by
 have e1:Bp (n+4) 10440 [Sl.v 1 (slN (ints l))]=some (.tuple ⟨[.func (.func 64) ⟨[]⟩ ⟨[.pointer (some ⟨1,0,none⟩)]⟩,.agg ⟨[Sl.v 1 (slN (ints l))]⟩]⟩):=by
  rw[Un];rfl
 have e2:CG (Bi .i64) (slN (ints l)).cs=some (ints l):=WU _
 have hll:len (ints l)=l.length:=by rw[AV];simp[ints]
 have e3:an (Nat.beq (len (ints l)) (slN (ints l)).n) (Nat.ble (len (ints l)) 1000000)=true:=by
  rw[hll,show (slN (ints l)).n=l.length from by show (ints l).length=_;simp[ints],show Nat.beq l.length l.length=true from by simp,show Nat.ble l.length 1000000=true from Nat.ble_eq_true_of_le (by omega)];rfl
 have ho:=MM l
 have hon:(slN (own l)).n=(own l).length:=rfl
 have fin:∀ b:Bool,HV (Bp (n+4)) M (slN (own l)) b 0 (Gy r c k f us) (sl g x) (Ke st) (Jg st)=some (I9 r c k f g us x (if b then some (own l) else st)):=fun b=>by
  cases b <;> rfl
 unfold FK
 simp only[SK,Ac,Dc,Eb,show Nat.beq us.length (len us)=true from by rw[AV];simp,Ak,e1,FW,Dj,EG,show Om 64 0 (.func (.func 64) ⟨[]⟩ ⟨[.pointer (some ⟨1,0,none⟩)]⟩)=some [.pointer (some ⟨1,0,none⟩)] from rfl,show MK (.pointer (some ⟨1,0,none⟩)) 1 0=true from rfl,RL,e2,e3,dS,hon,fin]
 try rw[show len (ints l)=(own l).length from by rw[hll,ho]]
 cases st with
 | none =>
  rw[show AY (Int.ofNat (own l).length) (Ke none)=true from FY (show (own l).length < 64 from by omega),Ak]
  rfl
 | some b =>
  show bb (AY (Int.ofNat (own l).length) (Int.ofNat b.length)) _ (bb (Bd (Int.ofNat (own l).length) (Int.ofNat b.length)) (oo (Bp (n+4) 45 [Sl.v 1 (slN (own l)),Sl.v 1 (slN b)]) none _) _)=some (I9 r c k f g us x (if (own l).length < b.length∨((own l).length=b.length∧Iz (own l) b=true) then some (own l) else some b))
  rw[Dr,Eb]
  have W:∀ h:(own l).length < b.length∨((own l).length=b.length∧Iz (own l) b=true),some (I9 r c k f g us x (some (own l)))=some (I9 r c k f g us x (if (own l).length < b.length∨((own l).length=b.length∧Iz (own l) b=true) then some (own l) else some b)):=fun h=>by rw[if_pos h]
  have V:∀ h:¬ ((own l).length < b.length∨((own l).length=b.length∧Iz (own l) b=true)),some (I9 r c k f g us x (some b))=some (I9 r c k f g us x (if (own l).length < b.length∨((own l).length=b.length∧Iz (own l) b=true) then some (own l) else some b)):=fun h=>by rw[if_neg h]
  by_cases h1:(own l).length < b.length
  ·rw[decide_eq_true h1,Ak];exact W (Or.inl h1)
  ·rw[decide_eq_false h1,AA]
   by_cases h2:(own l).length=b.length
   ·have h4:Bp (n+4) 45 [Sl.v 1 (slN (own l)),Sl.v 1 (slN b)]=some (I (cmpL (own l) b)):=Uy (n+1) _ _ h2 (by omega)
    rw[show Nat.beq (own l).length b.length=true from by rw[h2];simp,Ak,h4,Ac,BP,Ac,cZ]
    cases h3:Iz (own l) b with
    | true=>rw[h3] at W;exact W (Or.inr ⟨h2,rfl⟩)
    | false=>rw[h3] at V;exact V (fun h=>by rcases h with h | ⟨_,h⟩;exact h1 h;cases h)
   ·rw[show Nat.beq (own l).length b.length=false from Bool.eq_false_iff.2 fun h=>h2 (Nat.eq_of_beq_eq_true h),AA];exact V (fun h=>by rcases h with h | ⟨h,_⟩;exact h1 h;exact h2 h)
end
end Go.BkQ
