/- Words for the plain laws of backs. -/
import Derived.Test.YtokbaaeimejjlaaDoorBkCellsx
import Derived.Test.YtokbaaeimejjlaaDoorSpMorex
import Derived.Test.YtokbaaeimejjlaaDoorBkMPux
import Derived.KernelRfl

namespace Go.BkQ
open Go Go.Sp
theorem Co (a b:Nat):AY (Int.ofNat a) (Int.ofNat b)=decide (a < b):=by
 rw[JY];exact decide_eq_decide.2 Int.ofNat_lt
theorem Dn (a b:Int):Bd a b=decide (a=b):=by rw[Lr];rfl
theorem Jd (a b:Int):AY a b=decide (a < b):=JY a b
theorem WT {l:List Int} {i:Nat} {b:Int} {r:List Int} (h:l.drop i=b::r):AL (l.map I) (i*1)=some (I b):=by
 rw[BZ,Nat.mul_one]
 have:l[i]?=some b:=by
  have:=congrArg List.head? h
  rw[List.head?_drop] at this;exact this
 rw[List.getElem?_map,this];rfl
theorem Qr {l:List Int} {i:Nat} (h:i < l.length):AL (l.map I) (i*1)=some (I l[i]):=by
 rw[BZ,Nat.mul_one,Aja l i h]
theorem Qs {l:List Int} {i:Nat} {b:Int} {r:List Int} (h:l.drop i=b::r):l.drop (i+1)=r∧i < l.length∧b∈l:=by
 refine⟨?_,?_,?_⟩
 ·rw[←List.drop_drop,h];rfl
 ·have:=congrArg List.length h
  simp at this;omega
 ·have:b∈l.drop i:=by rw[h];exact List.mem_cons_self
  exact List.mem_of_mem_drop this
theorem IB {l:List Int} {i:Nat} (h:l.drop i=[]):l.length≤i:=List.drop_eq_nil_iff.1 h
def pick (x:List Int) (row:List Nat):List Int:=row.map fun k=>x.getD k 0
theorem DT (l:List Int):Au Ah (l.map I)=true:=by rw[Bh];exact kL l
theorem Ahd (n:Nat):AF ([(.int .i64 (0:Int))]:List Value) n=(List.replicate n (0:Int)).map I:=by
 apply List.ext_getElem?
 intro i
 by_cases h:i < n
 ·rw[Eu _ (by simp) _ _ (by simpa using h)]
  simp[h,Nat.mod_one]
 ·rw[List.getElem?_eq_none (by rw[BJ];simp;omega),List.getElem?_eq_none (by simp;omega)]
theorem Uw {α:Type} (x:α):∀ (i:Nat) (l:List α),i < l.length→BM [x] i l=l.set i x
 | 0,a::l,_=>by show Br [x] (Am (len [x]) (a::l))=_;simp[AV]
 | i + 1, a :: l, h => by
  show a::BM [x] i l=_
  rw[Uw x i l (by simpa using h)];rfl
theorem AiM (z:Int) (i:Nat) (l:List Int) (h:i < l.length):BM ([(.int .i64 z)]:List Value) (0+i*1) (l.map I)=(l.set i z).map I:=by
 rw[Nat.zero_add,Nat.mul_one,Uw _ _ _ (by simpa using h),List.map_set]
theorem AiN (l:List Int) {n:Nat} (h:n=l.length):bb (an (Nat.ble (0+n*1) (len (l.map I))) (Au Ah (Aq (n*1) (Am 0 (l.map I))))) (some (Sl.v 1 (Sl.mk n 0 (Aq (n*1) (Am 0 (l.map I)))))) none=some (S 0 l):=by
 have e1:Aq (n*1) (Am 0 (l.map I))=l.map I:=by
  rw[Cg,Bz,List.drop_zero,Nat.mul_one,h,←List.length_map (f:=I),List.take_length]
 rw[e1,DT,AV,List.length_map,show Nat.ble (0+n*1) l.length=true from Nat.ble_eq_true_of_le (by omega),h];rfl
theorem oV {q:List Int} {c:Nat} (hq:q.length≤2000) (hc:c / 2=q.length) (hc2:c % 2=0):GV 1 8 q.length c 1 (q.map I)=true:=by
 unfold GV EQ
 rw[AV,List.length_map,hc,hc2]
 rw[show Nat.ble ((4*(q.length+1)+4096)*8) 281474976710656=true from Nat.ble_eq_true_of_le (by omega),show Nat.ble (q.length+1) q.length=false from by rw[ble_eq];simp,show Nat.ble (0+q.length*1) q.length=true from Nat.ble_eq_true_of_le (by omega),show Nat.beq (0+q.length*1) q.length=true from by simp]
 rfl
theorem oW (q:List Int) (z:Int):Br (Am 0 (q.map I)) [(.int .i64 z)]=(q++[z]).map I:=by
 rw[BH,Bz,List.drop_zero,List.map_append];rfl
end Go.BkQ
set_option maxRecDepth 100000
set_option maxHeartbeats 4000000
namespace Go.BkQ
open Go Go.Sp Go.BkMM
theorem R4 (pu:Af) (M:Nat) {a b:List Int} (hab:a.length=b.length) (ha:a.length < 900000) (f1 f2:Nat):∀ (r r':List Int) (w i:Nat),a.drop i=r→b.drop i=r'→r.length < w→i≤a.length →
 Pm pu M w ⟨a.length,f1,a.map I⟩ ⟨b.length,f2,b.map I⟩ (Int.ofNat i)=some (.bool (decide (r=r')))
 | _,_,0,_,_,_,h,_=>by omega
 | [], r', w + 1, i, hd, hd', _, hi => by
  show Pk pu M (Pm pu M w) ⟨a.length,f1,a.map I⟩ ⟨b.length,f2,b.map I⟩ (Int.ofNat i)=_
  have h1:=IB hd
  have h2:r'=[]:=by rw[←hd'];exact List.drop_eq_nil_iff.2 (by omega)
  subst h2
  unfold Pk
  show bb (AY (Int.ofNat i) (Int.ofNat a.length)) _ _=_
  rw[Co,decide_eq_false (by omega)];rfl
 | x :: r, r', w + 1, i, hd, hd', hw, hi => by
  show Pk pu M (Pm pu M w) ⟨a.length,f1,a.map I⟩ ⟨b.length,f2,b.map I⟩ (Int.ofNat i)=_
  obtain⟨hd2,hi2,_⟩:=Qs hd
  cases r' with
  | nil=>have h1:=IB hd';omega
  | cons y r' =>
   obtain⟨hd3,_,_⟩:=Qs hd'
   have hr:(x::r).length=r.length+1:=rfl
   have hlt:Nat.blt i a.length=true:=by rw[blt_eq];simp;omega
   have hlt2:Nat.blt i b.length=true:=by rw[blt_eq];simp;omega
   have ih:=R4 pu M hab ha f1 f2 r r' w (i+1) hd2 hd3 (by omega) (by omega)
   unfold Pk
   show bb (AY (Int.ofNat i) (Int.ofNat a.length)) (oo (EA (Int.ofNat i)) none fun k=>bb (an (Nat.blt k a.length) true) (oo (AL (a.map I) (k*1)) none fun v=>oo (Bi .i64 v) none fun x1=>bb (an (Nat.blt k b.length) true) (oo (AL (b.map I) (k*1)) none fun v=>oo (Bi .i64 v) none fun x2=>_) none) none) _=_
   rw[Co,decide_eq_true hi2,Ak,Cx,Ac,hlt,show an true true=true from rfl,Ak,WT hd,Ac,BP,Ac,hlt2,show an true true=true from rfl,Ak,WT hd',Ac,BP,Ac,DC i (by omega),ih,Dn]
   by_cases h:x=y
   ·subst h;simp
   ·have hc:¬ (x::r=y::r'):=fun e=>h (by injection e)
    rw[decide_eq_false h,decide_eq_false hc];rfl
theorem p12 (k:Nat) (args:List Value):Bp (k+1) 12 args=m12 (Bp k) L args:=by kernel_rfl
theorem Ye (k f1 f2:Nat) {a b:List Int} (ha:a.length < 900000):Bp (k+1) 12 [S f1 a,S f2 b]=some (.bool (decide (a=b))):=by
 rw[p12]
 show bb (nt (Bd (Int.ofNat a.length) (Int.ofNat b.length))) (some (.bool false)) (Pm (Bp k) L L ⟨a.length,f1,a.map I⟩ ⟨b.length,f2,b.map I⟩ (0:Int))=_
 rw[Dn]
 by_cases h:a.length=b.length
 ·rw[decide_eq_true (congrArg Int.ofNat h),show nt true=false from rfl,AA]
  exact R4 (Bp k) L h ha f1 f2 a b L 0 (List.drop_zero) (List.drop_zero) (by show _ < 1000000;omega) (by omega)
 ·have:¬ a=b:=fun e=>h (by rw[e])
  rw[decide_eq_false (fun e=>h (Int.ofNat.inj e)),decide_eq_false this];rfl
def QN:Int→List Int→Int
 | m,[]=>m
 | m,x::r=>QN (if x < m then x else m) r
def QO:Int→List Int→Int
 | m,[]=>m
 | m,x::r=>QO (if m < x then x else m) r
theorem V9 (pu:Af) (M:Nat) {a:List Int} (ha:a.length < 900000) (f:Nat):∀ (r:List Int) (w i:Nat) (m:Int),a.drop i=r→r.length < w→OW pu M w ⟨a.length,f,a.map I⟩ m (Int.ofNat i)=some (I (QN m r))
 | _,0,_,_,_,h=>by omega
 | [], w + 1, i, m, hd, _ => by
  show PM pu M (OW pu M w) ⟨a.length,f,a.map I⟩ m (Int.ofNat i)=_
  have h1:=IB hd
  unfold PM
  show bb (AY (Int.ofNat i) (Int.ofNat a.length)) _ _=_
  rw[Co,decide_eq_false (by omega)];rfl
 | x :: r, w + 1, i, m, hd, hw => by
  show PM pu M (OW pu M w) ⟨a.length,f,a.map I⟩ m (Int.ofNat i)=_
  obtain⟨hd2,hi2,_⟩:=Qs hd
  have hr:(x::r).length=r.length+1:=rfl
  have hlt:Nat.blt i a.length=true:=by rw[blt_eq];simp;omega
  have ih:=V9 pu M ha f r w (i+1) (bb (AY x m) x m) hd2 (by omega)
  unfold PM
  show bb (AY (Int.ofNat i) (Int.ofNat a.length)) (oo (EA (Int.ofNat i)) none fun k=>bb (an (Nat.blt k a.length) true) (oo (AL (a.map I) (k*1)) none fun v=>oo (Bi .i64 v) none fun x1=>OW pu M w ⟨a.length,f,a.map I⟩ (bb (AY x1 m) x1 m) (Aj .i64 (Int.add (Int.ofNat k) (1:Int)))) none) _=_
  rw[Co,decide_eq_true hi2,Ak,Cx,Ac,hlt,show an true true=true from rfl,Ak,WT hd,Ac,BP,Ac,DC i (by omega),ih]
  show some (I (QN (bb (AY x m) x m) r))=some (I (QN (if x < m then x else m) r))
  rw[Jd]
  by_cases h:x < m
  ·rw[decide_eq_true h,if_pos h];rfl
  ·rw[decide_eq_false h,if_neg h];rfl
theorem Wj (pu:Af) (M:Nat) {a:List Int} (ha:a.length < 900000) (f:Nat):∀ (r:List Int) (w i:Nat) (m:Int),a.drop i=r→r.length < w→OX pu M w ⟨a.length,f,a.map I⟩ m (Int.ofNat i)=some (I (QO m r))
 | _,0,_,_,_,h=>by omega
 | [], w + 1, i, m, hd, _ => by
  show PN pu M (OX pu M w) ⟨a.length,f,a.map I⟩ m (Int.ofNat i)=_
  have h1:=IB hd
  unfold PN
  show bb (AY (Int.ofNat i) (Int.ofNat a.length)) _ _=_
  rw[Co,decide_eq_false (by omega)];rfl
 | x :: r, w + 1, i, m, hd, hw => by
  show PN pu M (OX pu M w) ⟨a.length,f,a.map I⟩ m (Int.ofNat i)=_
  obtain⟨hd2,hi2,_⟩:=Qs hd
  have hr:(x::r).length=r.length+1:=rfl
  have hlt:Nat.blt i a.length=true:=by rw[blt_eq];simp;omega
  have ih:=Wj pu M ha f r w (i+1) (bb (AY m x) x m) hd2 (by omega)
  unfold PN
  show bb (AY (Int.ofNat i) (Int.ofNat a.length)) (oo (EA (Int.ofNat i)) none fun k=>bb (an (Nat.blt k a.length) true) (oo (AL (a.map I) (k*1)) none fun v=>oo (Bi .i64 v) none fun x1=>OX pu M w ⟨a.length,f,a.map I⟩ (bb (AY m x1) x1 m) (Aj .i64 (Int.add (Int.ofNat k) (1:Int)))) none) _=_
  rw[Co,decide_eq_true hi2,Ak,Cx,Ac,hlt,show an true true=true from rfl,Ak,WT hd,Ac,BP,Ac,DC i (by omega),ih]
  show some (I (QO (bb (AY m x) x m) r))=some (I (QO (if m < x then x else m) r))
  rw[Jd]
  by_cases h:m < x
  ·rw[decide_eq_true h,if_pos h];rfl
  ·rw[decide_eq_false h,if_neg h];rfl
theorem p68 (k:Nat) (args:List Value):Bp (k+1) 68 args=m68 (Bp k) L args:=by kernel_rfl
theorem p69 (k:Nat) (args:List Value):Bp (k+1) 69 args=m69 (Bp k) L args:=by kernel_rfl
theorem AaN (k f:Nat) {x:Int} {r:List Int} (ha:(x::r).length < 900000):Bp (k+1) 68 [S f (x::r)]=some (I (QN x r)):=by
 rw[p68]
 show bb (AY (Int.ofNat (r.length+1)) (Int.ofNat 1)) none (bb (an (Nat.blt 0 (r.length+1)) true) (OW (Bp k) L L ⟨(x::r).length,f,(x::r).map I⟩ x (Int.ofNat 1)) none)=_
 rw[Co,decide_eq_false (by omega),AA,show Nat.blt 0 (r.length+1)=true from by rw[blt_eq];simp,show an true true=true from rfl,Ak]
 exact V9 (Bp k) L ha f r L 1 x rfl (by have h:(x::r).length=r.length+1:=rfl;show _ < 1000000;omega)
theorem AaO (k f:Nat) {x:Int} {r:List Int} (ha:(x::r).length < 900000):Bp (k+1) 69 [S f (x::r)]=some (I (QO x r)):=by
 rw[p69]
 show bb (AY (Int.ofNat (r.length+1)) (Int.ofNat 1)) none (bb (an (Nat.blt 0 (r.length+1)) true) (OX (Bp k) L L ⟨(x::r).length,f,(x::r).map I⟩ x (Int.ofNat 1)) none)=_
 rw[Co,decide_eq_false (by omega),AA,show Nat.blt 0 (r.length+1)=true from by rw[blt_eq];simp,show an true true=true from rfl,Ak]
 exact Wj (Bp k) L ha f r L 1 x rfl (by have h:(x::r).length=r.length+1:=rfl;show _ < 1000000;omega)
theorem Yf {b:Int}:∀ (r:List Int) (m:Int),b≤m→(∀ x∈r,b≤x)→b≤QN m r
 | [],_,h,_=>h
 | x :: r, m, h, hx => by
  show b≤QN (if x < m then x else m) r
  refine Yf r _ ?_ fun y hy=>hx y (List.mem_cons_of_mem _ hy)
  split
  ·exact hx x List.mem_cons_self
  ·exact h
theorem Yg {b:Int}:∀ (r:List Int) (m:Int),m < b→(∀ x∈r,x < b)→QO m r < b
 | [],_,h,_=>h
 | x :: r, m, h, hx => by
  show QO (if m < x then x else m) r < b
  refine Yg r _ ?_ fun y hy=>hx y (List.mem_cons_of_mem _ hy)
  split
  ·exact hx x List.mem_cons_self
  ·exact h
theorem OZ (pu:Af) (M c2:Nat) {x:List Int} {row:List Nat} (hx:row.length=x.length) (hr:∀ k∈row,k < x.length) (hxl:x.length < 1000) (f1 f2:Nat):∀ (r:List Nat) (w i:Nat) (q:List Int),row.drop i=r→r.length < w→q.length=x.length→q.take i=pick x (row.take i) →
 OT pu M w ⟨x.length,f1,x.map I⟩ x.length c2 ⟨row.length,f2,Fh row⟩ (Int.ofNat row.length) (Int.ofNat i) (q.map I)=some (S 0 (pick x row))
 | _,0,_,_,_,h,_,_=>by omega
 | [], w + 1, i, q, hd, _, hq, ht => by
  show Pp pu M (OT pu M w) ⟨x.length,f1,x.map I⟩ x.length c2 ⟨row.length,f2,Fh row⟩ (Int.ofNat row.length) (Int.ofNat i) (q.map I)=_
  have h1:row.length≤i:=List.drop_eq_nil_iff.1 hd
  unfold Pp
  rw[DT,Ak]
  show bb (AY (Int.ofNat i) (Int.ofNat row.length)) _ (bb (Au Ah (q.map I)) (bb (an (Nat.ble (0+x.length*1) (len (q.map I))) (Au Ah (Aq (x.length*1) (Am 0 (q.map I))))) (some (Sl.v 1 (Sl.mk x.length 0 (Aq (x.length*1) (Am 0 (q.map I)))))) none) none)=_
  rw[Co,decide_eq_false (by omega),AA,DT,Ak,AiN q hq.symm]
  rw[List.take_of_length_le (by omega),List.take_of_length_le (by omega)] at ht
  rw[ht]
 | y :: r, w + 1, i, q, hd, hw, hq, ht => by
  show Pp pu M (OT pu M w) ⟨x.length,f1,x.map I⟩ x.length c2 ⟨row.length,f2,Fh row⟩ (Int.ofNat row.length) (Int.ofNat i) (q.map I)=_
  have hrl:(y::r).length=r.length+1:=rfl
  have hi2:i < row.length:=by have:=congrArg List.length hd;simp at this;omega
  have hd2:row.drop (i+1)=r:=by rw[←List.drop_drop,hd];rfl
  have hyi:row[i]?=some y:=by
   have:=congrArg List.head? hd
   rw[List.head?_drop] at this;exact this
  have hym:y < x.length:=hr y (List.mem_of_getElem? hyi)
  have hlt:Nat.blt i row.length=true:=by rw[blt_eq];simp;omega
  have hlt2:Nat.blt y x.length=true:=by rw[blt_eq];simp;omega
  have hlt3:Nat.blt i x.length=true:=by rw[blt_eq];simp;omega
  have hrow:AL (Fh row) (i*1)=some (I (Int.ofNat y)):=by
   rw[BZ,Nat.mul_one,show Fh row=row.map fun n=>IV (Int.ofNat n) from Cc _ _,List.getElem?_map,hyi];rfl
  have hset:(q.set i x[y]).take (i+1)=pick x (row.take (i+1)):=by
   rw[List.take_add_one,List.take_set_of_le (by omega),ht,List.getElem?_set_self (by omega),List.take_add_one,hyi]
   simp[pick,List.getD_eq_getElem?_getD,hym]
  have ih:=OZ pu M c2 hx hr hxl f1 f2 r w (i+1) (q.set i x[y]) hd2 (by omega) (by simpa using hq) hset
  unfold Pp
  rw[DT,Ak]
  show bb (AY (Int.ofNat i) (Int.ofNat row.length)) (oo (EA (Int.ofNat i)) none fun k=>bb (an (Nat.blt k row.length) true) (oo (AL (Fh row) (k*1)) none fun v=>oo (Bi .i64 v) none fun x1=>oo (EA x1) none fun k2=>bb (an (Nat.blt k2 x.length) true) (oo (AL (x.map I) (k2*1)) none fun v=>oo (Bi .i64 v) none fun x2=>bb (an (Nat.blt k x.length) true) (bb (an (Nat.ble ((0+k*1)+1) (len (q.map I))) true) (bb (Au Ah (BM ([(.int .i64 x2)]:List Value) (0+k*1) (q.map I))) (OT pu M w ⟨x.length,f1,x.map I⟩ x.length c2 ⟨row.length,f2,Fh row⟩ (Int.ofNat row.length) (Aj .i64 (Int.add (Int.ofNat k) (1:Int))) (BM ([(.int .i64 x2)]:List Value) (0+k*1) (q.map I))) none) none) none) none) none) _=_
  rw [Co, decide_eq_true hi2, Ak, Cx, Ac, hlt, show an true true = true from rfl, Ak, hrow, Ac, BP, Ac, Cx, Ac, hlt2, show an true true = true from rfl, Ak, Qr hym, Ac, BP, Ac, hlt3, show an true true = true from rfl, Ak,
   AV,List.length_map,show Nat.ble (0+i*1+1) q.length=true from Nat.ble_eq_true_of_le (by omega),show an true true=true from rfl,Ak,AiM _ _ _ (by omega),DT,Ak,DC i (by omega)]
  exact ih
end Go.BkQ
set_option maxRecDepth 100000
set_option maxHeartbeats 4000000
namespace Go.BkQ
open Go Go.Sp Go.BkMM
noncomputable section
def Gy (r c k fl:Nat) (ts:List Nat):Value:=.agg ⟨[I (.ofNat r),I (.ofNat c),I (.ofNat k),Sl.v 1 ⟨len ts,fl,Fh ts⟩]⟩
def Nc (r c:Nat) (ts:List Nat):List Value:=AP (fun t=>Pj (cellL r c t)) ts
def Eo (r c k fl:Nat) (ts:List Nat):List Value:=[I (.ofNat r),I (.ofNat c),I (.ofNat k),Sl.v 1 ⟨len ts,fl,Fh ts⟩,Sl.v 1 ⟨len ts,0,Nc r c ts⟩]
def QR (r c k fl:Nat) (ts:List Nat):Value:=Cv 0 (Eo r c k fl ts)
def A7:List (Nat×Nat×List Nat):=[(1,1,[0]),(1,1,[0,2]),(1,1,[0,4]),(1,1,[0,5]),(1,1,[0,2,4,5]),(1,1,[0,1,2,3]),(1,1,[0,6]),(1,1,[0,7]),(1,1,[0,2,6,7]),(1,1,[0,1,2,3,4,5,6,7]),(1,2,[0]),(1,2,[0,2]),(1,2,[0,4]),(1,2,[0,5]),(1,2,[0,2,4,5]),(1,3,[0]),(1,3,[0,2]),(1,3,[0,4]),(1,3,[0,5]),(1,3,[0,2,4,5]),(1,4,[0]),(1,4,[0,2]),(1,4,[0,4]),(1,4,[0,5]),(1,4,[0,2,4,5]),(2,1,[0]),(2,1,[0,2]),(2,1,[0,4]),(2,1,[0,5]),(2,1,[0,2,4,5]),(2,2,[0]),(2,2,[0,2]),(2,2,[0,4]),(2,2,[0,5]),(2,2,[0,2,4,5]),(2,2,[0,1,2,3]),(2,2,[0,6]),(2,2,[0,7]),(2,2,[0,2,6,7]),(2,2,[0,1,2,3,4,5,6,7]),(2,3,[0]),(2,3,[0,2]),(2,3,[0,4]),(2,3,[0,5]),(2,3,[0,2,4,5]),(2,4,[0]),(2,4,[0,2]),(2,4,[0,4]),(2,4,[0,5]),(2,4,[0,2,4,5]),(3,1,[0]),(3,1,[0,2]),(3,1,[0,4]),(3,1,[0,5]),(3,1,[0,2,4,5]),(3,2,[0]),(3,2,[0,2]),(3,2,[0,4]),(3,2,[0,5]),(3,2,[0,2,4,5]),(3,3,[0]),(3,3,[0,2]),(3,3,[0,4]),(3,3,[0,5]),(3,3,[0,2,4,5]),(3,3,[0,1,2,3]),(3,3,[0,6]),(3,3,[0,7]),(3,3,[0,2,6,7]),(3,3,[0,1,2,3,4,5,6,7]),(3,4,[0]),(3,4,[0,2]),(3,4,[0,4]),(3,4,[0,5]),(3,4,[0,2,4,5]),(4,1,[0]),(4,1,[0,2]),(4,1,[0,4]),(4,1,[0,5]),(4,1,[0,2,4,5]),(4,2,[0]),(4,2,[0,2]),(4,2,[0,4]),(4,2,[0,5]),(4,2,[0,2,4,5]),(4,3,[0]),(4,3,[0,2]),(4,3,[0,4]),(4,3,[0,5]),(4,3,[0,2,4,5]),(4,4,[0]),(4,4,[0,2]),(4,4,[0,4]),(4,4,[0,5]),(4,4,[0,2,4,5]),(4,4,[0,1,2,3]),(4,4,[0,6]),(4,4,[0,7]),(4,4,[0,2,6,7]),(4,4,[0,1,2,3,4,5,6,7])]
end
theorem Zx (n fl k:Nat) (hk:k=1∨k=2∨k=3∨k=4):AP (fun p=>Bp (n+6) 49 [Gy p.1 p.2.1 k fl p.2.2]) A7=AP (fun p=>some (.tuple ⟨[QR p.1 p.2.1 k fl p.2.2,I 0]⟩)) A7:=by
 rcases hk with rfl | rfl | rfl | rfl <;> kernel_rfl
theorem JN {α β:Type} {f g:α→β}:∀ {l:List α},AP f l=AP g l→∀ x∈l,f x=g x
 | [],_,_,h=>by cases h
 | a :: l, h, x, hx => by
  injection (show f a::AP f l=g a::AP g l from h) with h1 h2
  cases hx with
  | head=>exact h1
  | tail _ hx=>exact JN h2 x hx
theorem Yh (n fl:Nat) {r c k:Nat} {ts:List Nat} (hk:k=1∨k=2∨k=3∨k=4) (h:(r,c,ts)∈A7):Bp (n+6) 49 [Gy r c k fl ts]=some (.tuple ⟨[QR r c k fl ts,I 0]⟩):=JN (f:=fun p:Nat×Nat×List Nat=>Bp (n+6) 49 [Gy p.1 p.2.1 k fl p.2.2]) (g:=fun p=>some (.tuple ⟨[QR p.1 p.2.1 k fl p.2.2,I 0]⟩)) (Zx n fl k hk) (r,c,ts) h
theorem p34 (k:Nat) (args:List Value):Bp (k+1) 34 args=m34 (Bp k) L args:=by kernel_rfl
theorem Zy (n f g:Nat) {d0 d1 d2 d3:Value} {rows:List Value} {m i:Nat} {row:List Nat} {x:List Int} (hi:AL rows (i*1)=some (Pj row)) (hm:i < m) (hx:row.length=x.length) (hr:∀ k∈row,k < x.length) (hxl:x.length < 1000) :
 Bp (n+1) 34 [Cv 0 [d0,d1,d2,d3,Sl.v 1 ⟨m,g,rows⟩],S f x,I (.ofNat i)]=some (S 0 (pick x row)):=by
 rw[p34]
 show bb (an (Nat.ble x.length x.length) (an (Nat.ble (x.length*8) 1099511627776) (an (Nat.ble x.length 1099511627776) true))) (bb (Au Ah (AF ([(.int .i64 (0:Int))]:List Value) x.length)) (bb (an (Nat.blt i m) true) (oo (AL rows (i*1)) none fun v5323=>(oo (Bj 1 v5323) none fun s5325=>
  (OT (Bp n) L L ⟨x.length,f,x.map I⟩ x.length (2*x.length+bb true 1 0) s5325 (Int.ofNat (Sl.n s5325)) (Int.ofNat 0) (AF ([(.int .i64 (0:Int))]:List Value) x.length)))) none) none) none=_
 rw[Nat.ble_eq_true_of_le (Nat.le_refl _),Nat.ble_eq_true_of_le (by omega),Nat.ble_eq_true_of_le (by omega),show an true (an true (an true true))=true from rfl,Ak,Ahd,DT,Ak,show Nat.blt i m=true from by rw[blt_eq];simpa using hm,show an true true=true from rfl,Ak,hi,Ac]
 show oo (Bj 1 (Sl.v 1 ⟨len row,0,Fh row⟩)) none _=_
 rw[Dc,Ac,AV]
 exact OZ (Bp n) L _ hx hr hxl f 0 row L 0 _ List.drop_zero (by show _ < 1000000;omega) (by simp) (by simp[pick])
def Qt (r c k:Nat) (x:List Int):Int:=if x.length≠r*c then 5 else if (∀ z∈x,0≤z∧z < (k:Int)) then 0 else 1
theorem Yi {b:Int}:∀ (r:List Int) (m:Int),(m < b∨∃ x∈r,x < b)→QN m r < b
 | [], m, h => by
  rcases h with h | ⟨x,hx,_⟩
  ·exact h
  ·cases hx
 | y :: r, m, h => by
  show QN (if y < m then y else m) r < b
  refine Yi r _ ?_
  rcases h with h | ⟨x,hx,h⟩
  ·left;split <;> omega
  ·rcases List.mem_cons.1 hx with rfl | hx
   ·left;split <;> omega
   ·exact .inr ⟨x,hx,h⟩
theorem Yj {b:Int}:∀ (r:List Int) (m:Int),(b≤m∨∃ x∈r,b≤x)→b≤QO m r
 | [], m, h => by
  rcases h with h | ⟨x,hx,_⟩
  ·exact h
  ·cases hx
 | y :: r, m, h => by
  show b≤QO (if m < y then y else m) r
  refine Yj r _ ?_
  rcases h with h | ⟨x,hx,h⟩
  ·left;split <;> omega
  ·rcases List.mem_cons.1 hx with rfl | hx
   ·left;split <;> omega
   ·exact .inr ⟨x,hx,h⟩
theorem p58 (k:Nat) (args:List Value):Bp (k+1) 58 args=m58 (Bp k) L args:=by kernel_rfl
theorem fZ (n f:Nat) {r c k:Nat} {d3 d4:Value} {x:List Int} (hr:1≤r) (hr4:r≤4) (hc:1≤c) (hc4:c≤4) (hx:x.length < 900000) :
 Bp (n+2) 58 [Cv 0 [I (.ofNat r),I (.ofNat c),I (.ofNat k),d3,d4],S f x]=some (I (Qt r c k x)):=by
 rw[p58]
 show bb (nt (Bd (Int.ofNat x.length) (Aj .i64 (Int.mul (Int.ofNat r) (Int.ofNat c))))) (some (I 5)) (oo (Bp (n+1) 68 [S f x]) none fun v6555=>(oo (Bi .i64 v6555) none fun x6557=>(bb (AY x6557 (0:Int)) (some (I 1)) (oo (Bp (n+1) 69 [S f x]) none fun v6564=>(oo (Bi .i64 v6564) none fun x6566=>bb (nt (AY x6566 (Int.ofNat k))) (some (I 1)) (some (I 0)))))))=_
 have hrc:r*c≤16:=Nat.mul_le_mul hr4 hc4
 have hrc1:1≤r*c:=Nat.mul_le_mul hr hc
 rw[show Int.mul (Int.ofNat r) (Int.ofNat c)=Int.ofNat (r*c) from rfl,Oe _ (by simp;omega) (by simp;omega),Dn]
 unfold Qt
 by_cases h:x.length=r*c
 ·rw[decide_eq_true (congrArg Int.ofNat h),show nt true=false from rfl,AA,if_neg (by simpa using h)]
  obtain⟨y,t,rfl⟩:∃ y t,x=y::t:=by
   cases x with
   | nil=>simp at h;omega
   | cons y t=>exact⟨y,t,rfl⟩
  rw[AaN n f hx,Ac,BP,Ac,AaO n f hx,Ac,BP,Ac,Jd,Jd]
  by_cases h1:QN y t < 0
  ·rw[decide_eq_true h1,Ak,if_neg]
   intro ha
   have:=Yf (b:=0) t y (ha y List.mem_cons_self).1 fun z hz=>(ha z (List.mem_cons_of_mem _ hz)).1
   omega
  ·rw[decide_eq_false h1,AA]
   by_cases h2:QO y t < Int.ofNat k
   ·rw[decide_eq_true h2,show nt true=false from rfl,AA,if_pos]
    intro z hz
    refine⟨?_,?_⟩
    ·refine Int.not_lt.1 fun hn=>h1 (Yi t y ?_)
     rcases List.mem_cons.1 hz with rfl | hz
     ·exact .inl hn
     ·exact .inr ⟨z,hz,hn⟩
    ·refine Int.not_le.1 fun hn=>Int.not_le.2 h2 (Yj t y ?_)
     rcases List.mem_cons.1 hz with rfl | hz
     ·exact .inl hn
     ·exact .inr ⟨z,hz,hn⟩
   ·rw[decide_eq_false h2,show nt false=true from rfl,Ak,if_neg]
    intro ha
    exact h2 (Yg t y (ha y List.mem_cons_self).2 fun z hz=>(ha z (List.mem_cons_of_mem _ hz)).2)
 ·rw[decide_eq_false (fun e=>h (Int.ofNat.inj e)),show nt false=true from rfl,Ak,if_pos h]
def Ux:List Int→Int
 | []=>0
 | e::r=>if e=0 then Ux r else e
def Yk (b:Value) (e:Int):Value:=if e=0 then .tuple ⟨[b,I 0]⟩ else .tuple ⟨[.pointer none,I e]⟩
theorem O0 (pu:Af) (M off:Nat) (cs:List Value) {bs:List Sl} {e:Sl→Int} (h:∀ s∈bs,pu 58 [Cv off cs,Sl.v 1 s]=some (I (e s))) (hl:bs.length < 1000) (f:Nat):∀ (r:List Sl) (w i:Nat),bs.drop i=r→r.length < w →
 OQ pu M w off cs ⟨bs.length,f,bs.map (Sl.v 1)⟩ (Int.ofNat bs.length) (Int.ofNat i)=some (Yk (Cv off cs) (Ux (r.map e)))
 | _,0,_,_,hw=>by omega
 | [], w + 1, i, hd, _ => by
  show Po pu M (OQ pu M w) off cs ⟨bs.length,f,bs.map (Sl.v 1)⟩ (Int.ofNat bs.length) (Int.ofNat i)=_
  have h1:bs.length≤i:=List.drop_eq_nil_iff.1 hd
  unfold Po
  rw[Co,decide_eq_false (by omega)];rfl
 | s :: r, w + 1, i, hd, hw => by
  show Po pu M (OQ pu M w) off cs ⟨bs.length,f,bs.map (Sl.v 1)⟩ (Int.ofNat bs.length) (Int.ofNat i)=_
  have hi2:i < bs.length:=by have:=congrArg List.length hd;simp at this;omega
  have hd2:bs.drop (i+1)=r:=by rw[←List.drop_drop,hd];rfl
  have hsi:bs[i]?=some s:=by
   have:=congrArg List.head? hd
   rw[List.head?_drop] at this;exact this
  have hs:=h s (List.mem_of_getElem? hsi)
  have hn:AL (bs.map (Sl.v 1)) (i*1)=some (Sl.v 1 s):=by rw[BZ,Nat.mul_one,List.getElem?_map,hsi];rfl
  have hrl:(s::r).length=r.length+1:=rfl
  have ih:=O0 pu M off cs h hl f r w (i+1) hd2 (by omega)
  unfold Po
  show bb (AY (Int.ofNat i) (Int.ofNat bs.length)) (oo (EA (Int.ofNat i)) none fun k=>bb (an (Nat.blt k bs.length) true) (oo (AL (bs.map (Sl.v 1)) (k*1)) none fun v=>oo (Bj 1 v) none fun s1=>oo (pu 58 [Cv off cs,Sl.v 1 s1]) none fun v=>oo (Bi .i64 v) none fun x=>bb (nt (Bd x (0:Int))) (some (.tuple ⟨[.pointer none,I x]⟩)) (OQ pu M w off cs ⟨bs.length,f,bs.map (Sl.v 1)⟩ (Int.ofNat bs.length) (Aj .i64 (Int.add (Int.ofNat k) (1:Int))))) none) _=_
  rw[Co,decide_eq_true hi2,Ak,Cx,Ac,show Nat.blt i bs.length=true from by rw[blt_eq];simpa using hi2,show an true true=true from rfl,Ak,hn,Ac,Dc,Ac,hs,Ac,BP,Ac,DC i (by omega),ih,Dn]
  show _=some (Yk (Cv off cs) (if e s=0 then Ux (r.map e) else e s))
  by_cases he:e s=0
  ·rw[decide_eq_true he,show nt true=false from rfl,AA,if_pos he]
  ·rw[decide_eq_false he,show nt false=true from rfl,Ak,if_neg he]
   unfold Yk
   rw[if_neg he]
theorem p32 (k:Nat) (args:List Value):Bp (k+1) 32 args=m32 (Bp k) L args:=by kernel_rfl
theorem Zz (n f fl:Nat) {r c k:Nat} {ts:List Nat} {bs:List Sl} (hk:k=1∨k=2∨k=3∨k=4) (hg:(r,c,ts)∈A7) (hr:1≤r) (hr4:r≤4) (hc:1≤c) (hc4:c≤4) (e:Sl→Int)
 (hb:∀ s∈bs,∃ f x,s=sl f x∧x.length < 900000∧e s=Qt r c k x) (hl:bs.length < 1000) :
 Bp (n+7) 32 [Gy r c k fl ts,Sl.v 1 ⟨bs.length,f,bs.map (Sl.v 1)⟩]=some (Yk (QR r c k fl ts) (Ux (bs.map e))):=by
 rw[p32]
 show oo (Bp (n+6) 49 [Gy r c k fl ts]) none _=_
 rw[Yh n fl hk hg,Ac]
 show OQ (Bp (n+6)) L L 0 (Eo r c k fl ts) ⟨bs.length,f,bs.map (Sl.v 1)⟩ (Int.ofNat bs.length) (Int.ofNat 0)=_
 exact O0 (Bp (n+6)) L 0 (Eo r c k fl ts) (fun s hs=>by
  obtain⟨f,x,rfl,hx,he⟩:=hb s hs
  rw[he]
  exact fZ (n+4) f hr hr4 hc hc4 hx) hl f bs L 0 List.drop_zero (by show _ < 1000000;omega)
end Go.BkQ
set_option maxRecDepth 100000
set_option maxHeartbeats 4000000
namespace Go.BkQ
open Go Go.Sp Go.BkMM
noncomputable def AaP (n:Nat):Bool:=an (Nat.ble 1 n) (Nat.ble n 4)
noncomputable def rowOk (r c t:Nat):Bool:=an (Nat.beq (len (cellL r c t)) (r*c)) (Au (fun k=>Nat.blt k (r*c)) (cellL r c t))
noncomputable def jL (p:Nat×Nat×List Nat):Bool:=an (AaP p.1) (an (AaP p.2.1) (an (Nat.ble (len p.2.2) 8) (Au (fun t=>an (Nat.ble t 7) (rowOk p.1 p.2.1 t)) p.2.2)))
theorem ZA:Au jL A7=true:=by kernel_rfl
theorem Nf {n:Nat} (h:AaP n=true):1≤n∧n≤4:=by
 obtain⟨h1,h2⟩:=Av h
 exact⟨Nat.le_of_ble_eq_true h1,Nat.le_of_ble_eq_true h2⟩
structure Yl (r c:Nat) (ts:List Nat):Prop where
 r1:1≤r
 r4:r≤4
 c1:1≤c
 c4:c≤4
 len8:ts.length≤8
 row:∀ t∈ts,t≤7∧(cellL r c t).length=r*c∧∀ k∈cellL r c t,k < r*c
theorem BO {r c:Nat} {ts:List Nat} (h:(r,c,ts)∈A7):Yl r c ts:=by
 have h1:=ZA
 rw[Bh,List.all_eq_true] at h1
 obtain⟨a1,a2⟩:=Av (h1 _ h)
 obtain⟨a2,a3⟩:=Av a2
 obtain⟨a3,a4⟩:=Av a3
 have a3:=Nat.le_of_ble_eq_true a3
 rw[AV] at a3
 rw[Bh,List.all_eq_true] at a4
 refine⟨(Nf a1).1,(Nf a1).2,(Nf a2).1,(Nf a2).2,a3,fun t ht=>?_⟩
 obtain⟨b1,b2⟩:=Av (a4 t ht)
 obtain⟨b2,b3⟩:=Av b2
 have b2:=Nat.eq_of_beq_eq_true b2
 rw[AV] at b2
 rw[Bh,List.all_eq_true] at b3
 exact⟨Nat.le_of_ble_eq_true b1,b2,fun k hk=>by simpa [blt_eq] using b3 k hk⟩
def Je (r c k:Nat) (x:List Int):Prop:=x.length=r*c∧∀ z∈x,0≤z∧z < (k:Int)
theorem Je.valid {r c k:Nat} {x:List Int} (h:Je r c k x):Qt r c k x=0:=by
 unfold Qt
 rw[if_neg (by simpa using h.1),if_pos h.2]
theorem Qu (x:List Int) (row:List Nat):(pick x row).length=row.length:=by simp[pick]
theorem Je.pick {r c k t:Nat} {ts:List Nat} {x:List Int} (hp:Yl r c ts) (ht:t∈ts) (h:Je r c k x):Je r c k (pick x (cellL r c t)):=by
 obtain⟨_,h1,h2⟩:=hp.row t ht
 refine⟨by rw[Qu,h1],fun z hz=>?_⟩
 unfold BkQ.pick at hz
 obtain⟨j,hj,rfl⟩:=List.mem_map.1 hz
 have hj2:j < x.length:=by rw[h.1];exact h2 j hj
 rw[List.getD_eq_getElem?_getD,List.getElem?_eq_getElem hj2]
 exact h.2 _ (List.getElem_mem hj2)
end Go.BkQ
set_option maxRecDepth 100000
namespace Go.BkQ
open Go Go.Sp
noncomputable section
def p64:List (Nat×Nat):=[(0,0),(0,1),(0,2),(0,3),(0,4),(0,5),(0,6),(0,7),(1,0),(1,1),(1,2),(1,3),(1,4),(1,5),(1,6),(1,7),(2,0),(2,1),(2,2),(2,3),(2,4),(2,5),(2,6),(2,7),(3,0),(3,1),(3,2),(3,3),(3,4),(3,5),(3,6),(3,7),(4,0),(4,1),(4,2),(4,3),(4,4),(4,5),(4,6),(4,7),(5,0),(5,1),(5,2),(5,3),(5,4),(5,5),(5,6),(5,7),(6,0),(6,1),(6,2),(6,3),(6,4),(6,5),(6,6),(6,7),(7,0),(7,1),(7,2),(7,3),(7,4),(7,5),(7,6),(7,7)]
end
end Go.BkQ
set_option maxRecDepth 100000
set_option maxHeartbeats 4000000
namespace Go.BkQ
open Go Go.Sp Go.BkMM
noncomputable section
def AaQ (l:List Nat) (n:Nat):Bool:=List.rec (motive:=fun _=>Bool) false (fun a _ ih=>Dp (Nat.beq a n) ih) l
def eqL (a:List Nat):List Nat→Bool:=List.rec (motive:=fun _=>List Nat→Bool) (fun b=>ll b true fun _ _=>false) (fun x _ ih b=>ll b false fun y b=>an (Nat.beq x y) (ih b)) a
def AaR (r c:Nat) (us:List Nat):Bool:=List.rec (motive:=fun _=>Bool) false (fun p _ ih=>Dp (an (Nat.beq p.1 r) (an (Nat.beq p.2.1 c) (eqL p.2.2 us))) ih) A7
end
theorem gD {l:List Nat} {n:Nat}:AaQ l n=true↔n∈l:=by
 induction l with
 | nil=>exact⟨(fun h=>by cases h),(fun h=>by cases h)⟩
 | cons a l ih =>
  show Dp (Nat.beq a n) (AaQ l n)=true↔_
  rw[Ed,Bool.or_eq_true,ih,List.mem_cons,Nat.beq_eq]
  exact⟨fun h=>h.imp Eq.symm id,fun h=>h.imp Eq.symm id⟩
end Go.BkQ
set_option maxRecDepth 100000
set_option maxHeartbeats 4000000
namespace Go.BkQ
open Go Go.Sp Go.BkMM
theorem q49 (k:Nat) (args:List Value):Bp (k+1) 37 args=m37 (Bp k) L args:=by kernel_rfl
theorem p43 (k:Nat) (args:List Value):Bp (k+1) 32 args=m32 (Bp k) L args:=by kernel_rfl
theorem gF (pu:Af) (M:Nat) {a b:List Int} (hab:a.length=b.length) (hl:a.length < 900000) (f1 f2:Nat):∀ (r r':List Int) (w i:Nat),a.drop i=r→b.drop i=r'→r.length < w →
 RS pu M w (sl f1 a) (sl f2 b) (.ofNat a.length) (.ofNat i)=some (.bool (decide (r=r')))
 | _,_,0,_,_,_,h=>by omega
 | [], r', w + 1, i, hd, hd', _ => by
  have h1:=IB hd
  have h2:r'=[]:=by rw[←hd'];exact List.drop_eq_nil_iff.2 (by omega)
  subst h2
  show bb (AY (.ofNat i) (.ofNat a.length)) _ (some (Value.bool true))=_
  rw[Co,decide_eq_false (by omega)];rfl
 | x :: r, r', w + 1, i, hd, hd', hw => by
  obtain⟨hd2,hi,_⟩:=Qs hd
  cases r' with
  | nil=>have h1:=IB hd';omega
  | cons y r' =>
   obtain⟨hd3,hi3,_⟩:=Qs hd'
   have hr:(x::r).length=r.length+1:=rfl
   have hlt:Nat.blt i a.length=true:=by rw[blt_eq];simp;omega
   have hlt2:Nat.blt i b.length=true:=by rw[blt_eq];simp;omega
   have ih:=gF pu M hab hl f1 f2 r r' w (i+1) hd2 hd3 (by omega)
   show VL pu M (RS pu M w) (sl f1 a) (sl f2 b) (.ofNat a.length) (.ofNat i)=_
   unfold VL
   rw[Co,decide_eq_true hi,Ak,Cx,Ac,I4,I4,GX,GX,hlt,hlt2,show an true true=true from rfl,Ak,WT hd,Ac,BP,Ac,Ak,WT hd',Ac,BP,Ac,DC i (by omega),ih,Dn]
   by_cases h:x=y
   ·subst h;simp
   ·have hc:¬ (x::r=y::r'):=fun e=>h (by injection e)
    rw[decide_eq_false h,decide_eq_false hc];rfl
theorem Wl (n f1 f2:Nat) {a b:List Int} (hl:a.length < 900000):Bp (n+1) 37 [S f1 a,S f2 b]=some (.bool (decide (a=b))):=by
 rw[q49]
 show bb (nt (Bd (Int.ofNat a.length) (Int.ofNat b.length))) (some (.bool false)) (RS (Bp n) L L (sl f1 a) (sl f2 b) (.ofNat a.length) (.ofNat 0))=_
 rw[Dn]
 by_cases h:a.length=b.length
 ·rw[decide_eq_true (congrArg Int.ofNat h),show nt true=false from rfl,AA]
  exact gF (Bp n) L h hl f1 f2 a b L 0 List.drop_zero List.drop_zero (by show _ < 1000000;omega)
 ·have:¬ a=b:=fun e=>h (by rw[e])
  rw[decide_eq_false (fun e=>h (Int.ofNat.inj e)),decide_eq_false this];rfl
end Go.BkQ
set_option maxRecDepth 100000
set_option maxHeartbeats 4000000
namespace Go.BkQ
open Go Go.Sp Go.BkMM
theorem OH:∀ n,upN n=List.range n
 | 0=>rfl
 | n + 1 => by
  show Br (upN n) [n]=_
  rw[BH,OH n,List.range_succ]
theorem gG (l:List Int):Aq (l.length*1) (Am 0 (l.map I))=l.map I:=by rw[Cg,Bz,List.drop_zero,Nat.mul_one];exact List.take_of_length_le (by simp)
theorem Ahf (l:List Int):an (Nat.ble (0+l.length*1) (len (l.map I))) (Au Ah (l.map I))=true:=by
 rw[DT,AV,show Nat.ble (0+l.length*1) (l.map I).length=true from Nat.ble_eq_true_of_le (by simp)];rfl
theorem p51 (k:Nat) (args:List Value):Bp (k+1) 36 args=m36 (Bp k) L args:=by kernel_rfl
theorem AaS (a b:Nat) (h:a≠0∨b≠0):a ||| b≠0:=by
 intro e
 have:=Nat.or_eq_zero_iff.1 e
 rcases h with h | h
 ·exact h this.1
 ·exact h this.2
theorem WU {z k:Nat} (hk:k < 16) (hz:z < 65536):∃ z':Nat,jF .u16 (.ofNat z) (QW .u16 (1:Int) k) = .ofNat z'∧z'≠0∧z' < 65536:=by
 have hs:QW .u16 (1:Int) k = .ofNat (2 ^ k):=by
  have:k=0∨k=1∨k=2∨k=3∨k=4∨k=5∨k=6∨k=7∨k=8∨k=9∨k=10∨k=11∨k=12∨k=13∨k=14∨k=15:=by omega
  rcases this with rfl | rfl | rfl | rfl | rfl | rfl | rfl | rfl | rfl | rfl | rfl | rfl | rfl | rfl | rfl | rfl <;> rfl
 have hb:2 ^ k < 65536:=by
  have:2 ^ k < 2 ^ 16:=Nat.pow_lt_pow_right (by omega) hk
  simpa using this
 refine⟨z ||| 2 ^ k,?_,AaS _ _ (.inr (Nat.pos_iff_ne_zero.1 (Nat.two_pow_pos k))),Nat.or_lt_two_pow (n:=16) hz hb⟩
 rw[hs]
 show bb (Nl .u16 z (2 ^ k)) (Int.ofNat (Nat.lor z (2 ^ k))) (YD .u16 (.ofNat z) (.ofNat (2 ^ k))) = .ofNat (z ||| 2 ^ k)
 rw[show Nl .u16 z (2 ^ k)=true from by unfold Nl;simp[GA];omega]
 rfl
end Go.BkQ
set_option maxRecDepth 100000
set_option maxHeartbeats 4000000
namespace Go.BkQ
open Go Go.Sp Go.BkMM
theorem gH {row:List Nat} {i k:Nat} {rest:List Nat} (h:row.drop i=k::rest):AL (Fh row) (i*1)=some (I (.ofNat k))∧row.drop (i+1)=rest∧i < row.length:=by
 have hi:i < row.length:=by have:=congrArg List.length h;simp at this;omega
 have hk:row[i]?=some k:=by
  have:=congrArg List.head? h
  rw[List.head?_drop] at this;exact this
 refine⟨?_,by rw[←List.drop_drop,h];rfl,hi⟩
 rw[BZ,Nat.mul_one,show Fh row=row.map fun n=>IV (Int.ofNat n) from Cc _ _,List.getElem?_map,hk];rfl
theorem Ng (pu:Af) (M f:Nat) {row:List Nat} {x:List Int} (hx:row.length=x.length) (hx16:x.length≤16) (hr:∀ k∈row,k < x.length):∀ (rest:List Nat) (xr:List Int) (w i z:Nat),row.drop i=rest→x.drop i=xr→rest.length < w→z < 65536 →
 ∃ z':Nat,Gt pu M w (sl f x) (.ofNat z) ⟨len row,0,Fh row⟩ (.ofNat (len row)) (.ofNat i)=some (.int .u16 (.ofNat z'))∧(z'=0↔z=0∧pick x rest=xr)
 | _,_,0,_,_,_,_,h,_=>by omega
 | [], xr, w + 1, i, z, hd, hd', _, _ => by
  have h1:row.length≤i:=List.drop_eq_nil_iff.1 hd
  have h2:xr=[]:=by rw[←hd'];exact List.drop_eq_nil_iff.2 (by omega)
  subst h2
  refine⟨z,?_,⟨fun h=>⟨h,rfl⟩,fun h=>h.1⟩⟩
  show bb (AY (.ofNat i) (.ofNat (len row))) _ (some (Value.int .u16 (.ofNat z)))=_
  rw[Co,AV,decide_eq_false (by omega),AA]
 | k :: rest, xr, w + 1, i, z, hd, hd', hw, hz => by
  obtain⟨hget,hd2,hi⟩:=gH hd
  have hrl:(k::rest).length=rest.length+1:=rfl
  have hk:=hr k (List.mem_of_mem_drop (i:=i) (by rw[hd];exact List.mem_cons_self))
  cases xr with
  | nil=>have h1:=IB hd';omega
  | cons y xr =>
   obtain⟨hd3,hi3,_⟩:=Qs hd'
   have hb1:Nat.blt i (len row)=true:=by rw[blt_eq,AV];simp;omega
   have hb2:Nat.blt k x.length=true:=by rw[blt_eq];simpa using hk
   have hb3:Nat.blt i x.length=true:=by rw[blt_eq];simpa using hi3
   have hpk:pick x (k::rest)=x[k]::pick x rest:=by
    show x.getD k 0::pick x rest=_
    rw[show x.getD k 0=x[k] from by simp[List.getD_eq_getElem?_getD,hk]]
   have key:∀ z2:Nat,z2 < 65536→(z2=0↔z=0∧x[k]=y)→∃ z':Nat,Gt pu M w (sl f x) (.ofNat z2) ⟨len row,0,Fh row⟩ (.ofNat (len row)) (.ofNat (i+1))=some (.int .u16 (.ofNat z'))∧(z'=0↔z=0∧pick x (k::rest)=y::xr):=fun z2 hz2 hh=>by
    obtain⟨z',h1,h2⟩:=Ng pu M f hx hx16 hr rest xr w (i+1) z2 hd2 hd3 (by omega) hz2
    refine⟨z',h1,?_⟩
    rw[h2,hh,hpk,List.cons.injEq]
    exact⟨fun h=>⟨h.1.1,h.1.2,h.2⟩,fun h=>⟨⟨h.1,h.2.1⟩,h.2.2⟩⟩
   have e:Gt pu M (w+1) (sl f x) (.ofNat z) ⟨len row,0,Fh row⟩ (.ofNat (len row)) (.ofNat i)=bb (nt (decide (x[k]=y))) (Gt pu M w (sl f x) (jF .u16 (.ofNat z) (QW .u16 (1:Int) i)) ⟨len row,0,Fh row⟩ (.ofNat (len row)) (.ofNat (i+1))) (Gt pu M w (sl f x) (.ofNat z) ⟨len row,0,Fh row⟩ (.ofNat (len row)) (.ofNat (i+1))):=by
    show Pt pu M (Gt pu M w) (sl f x) (.ofNat z) ⟨len row,0,Fh row⟩ (.ofNat (len row)) (.ofNat i)=_
    unfold Pt RQ
    show bb (AY (.ofNat i) (.ofNat (len row))) (oo (EA (.ofNat i)) none fun k5590=>(bb (an (Nat.blt k5590 (len row)) true) (oo (AL (Fh row) (k5590*1)) none fun v5593=>(oo (Bi .i64 v5593) none fun x5595=>(oo (EA x5595) none fun k5609=>(bb (an (Nat.blt k5609 x.length) true) (oo (AL (x.map I) (k5609*1)) none fun v5612=>(oo (Bi .i64 v5612) none fun x5614=>(bb (an (Nat.blt k5590 x.length) true) (oo (AL (x.map I) (k5590*1)) none fun v5617=>(oo (Bi .i64 v5617) none fun x5619=>(bb (nt (Bd x5614 x5619)) (Gt pu M w (sl f x) (jF .u16 (.ofNat z) (QW .u16 (1:Int) k5590)) ⟨len row,0,Fh row⟩ (.ofNat (len row)) (Aj .i64 (Int.add (Int.ofNat k5590) (1:Int)))) (Gt pu M w (sl f x) (.ofNat z) ⟨len row,0,Fh row⟩ (.ofNat (len row)) (Aj .i64 (Int.add (Int.ofNat k5590) (1:Int))))))) none))) none)))) none)) _=_
    rw[Co,decide_eq_true (by rw[AV];exact hi),Ak,Cx,Ac,hb1,show an true true=true from rfl,Ak,hget,Ac,BP,Ac,Cx,Ac,hb2,show an true true=true from rfl,Ak,Qr hk,Ac,BP,Ac,hb3,show an true true=true from rfl,Ak,WT hd',Ac,BP,Ac,Dn,DC i (by omega)]
   by_cases h:x[k]=y
   ·rw[e,decide_eq_true h]
    exact key z hz ⟨fun hz=>⟨hz,h⟩,fun hz=>hz.1⟩
   ·rw[e,decide_eq_false h]
    obtain⟨z2,g1,g2,g3⟩:=WU (z:=z) (k:=i) (by omega) hz
    show ∃ z':Nat,Gt pu M w (sl f x) (jF .u16 (.ofNat z) (QW .u16 (1:Int) i)) ⟨len row,0,Fh row⟩ (.ofNat (len row)) (.ofNat (i+1))=_∧_
    rw[g1]
    exact key z2 g3 ⟨fun h0=>absurd h0 g2,fun hz=>absurd hz.2 h⟩
theorem WV (n f fl:Nat) {r c k t i:Nat} {us:List Nat} {x:List Int} (hg:(r,c,us)∈A7) (hi:us[i]?=some t) (hx:x.length=r*c) :
 ∃ z:Nat,Bp (n+1) 36 [QR r c k fl us,S f x,I (.ofNat i)]=some (.int .u16 (.ofNat z))∧(z=0↔pick x (cellL r c t)=x):=by
 have hp:=BO hg
 have ht:=List.mem_of_getElem? hi
 obtain⟨_,h1,h2⟩:=hp.row t ht
 have hrc:r*c≤16:=Nat.mul_le_mul hp.r4 hp.c4
 obtain⟨z,g1,g2⟩:=Ng (Bp n) L f (row:=cellL r c t) (x:=x) (by omega) (by omega) (fun j hj=>by rw[hx];exact h2 j hj) _ _ L 0 0 rfl rfl (by rw[List.drop_zero,h1];show _ < 1000000;omega) (by omega)
 refine⟨z,?_,by rw[g2,List.drop_zero,List.drop_zero];exact⟨fun h=>h.2,fun h=>⟨rfl,h⟩⟩⟩
 rw[p51]
 have hii:i < us.length:=(List.getElem?_eq_some_iff.1 hi).1
 have hn:AL (Nc r c us) (i*1)=some (Pj (cellL r c t)):=by
  rw[BZ,Nat.mul_one,show Nc r c us=us.map fun t=>Pj (cellL r c t) from Cc _ _,List.getElem?_map,hi];rfl
 show bb (an (Nat.blt i (len us)) true) (oo (AL (Nc r c us) (i*1)) none fun v5490=>(oo (Bj 1 v5490) none fun s5492=>(Gt (Bp n) L L (sl f x) (0:Int) s5492 (Int.ofNat (Sl.n s5492)) (0:Int)))) none=_
 rw[show Nat.blt i (len us)=true from by rw[blt_eq,AV];simpa using hii,show an true true=true from rfl,Ak,hn,Ac]
 exact g1
end Go.BkQ
set_option maxRecDepth 100000
set_option maxHeartbeats 4000000
namespace Go.BkQ
open Go Go.Sp Go.BkMM
theorem Ke (n f g:Nat) {r c k:Nat} {us:List Nat} {x:List Int} (hg:(r,c,us)∈A7) (hk:k=1∨k=2∨k=3∨k=4) (hx:Je r c k x) :
 Bp (n+7) 32 [Gy r c k f us,(Sl.v 1 (Sl.mk 1 0 (Aq (1*1) (Am 0 ([(Sl.v 1 (sl g x))]:List Value)))))]=some (.tuple ⟨[QR r c k f us,I 0]⟩):=by
 have hpr:=BO hg
 have hrc:r*c≤16:=Nat.mul_le_mul hpr.r4 hpr.c4
 have h:=Zz n 0 f (bs:=[sl g x]) hk hg hpr.r1 hpr.r4 hpr.c1 hpr.c4 (fun _=>0) (fun s hs=>by
  obtain rfl:=List.mem_singleton.1 hs
  exact⟨g,x,rfl,by rw[hx.1];omega,hx.valid.symm⟩) (by simp)
 exact h
end Go.BkQ
set_option maxRecDepth 100000
set_option maxHeartbeats 4000000
namespace Go.BkQ
open Go Go.Sp Go.BkMM
def Jf:List Int→List Int→Bool
 | x::r,y::s=>if x=y then Jf r s else decide (x < y)
 | _,_=>false
theorem O9:∀ a,Jf a a=false
 | []=>rfl
 | x::r=>by simp[Jf,O9 r]
theorem JO:∀ {a b c:List Int},Jf a b=true→Jf b c=true→Jf a c=true
 | [],_,_,h,_=>by simp[Jf] at h
 | _::_,[],_,h,_=>by simp[Jf] at h
 | _::_,_::_,[],_,h=>by simp[Jf] at h
 | x :: a, y :: b, z :: c, h1, h2 => by
  unfold Jf at h1 h2 ⊢
  by_cases e1:x=y
  ·subst e1
   by_cases e2:x=z
   ·subst e2
    simp only[if_true] at *
    exact JO h1 h2
   ·rw[if_neg e2] at h2 ⊢
    exact h2
  ·rw[if_neg e1] at h1
   by_cases e2:y=z
   ·subst e2
    rw[if_neg e1];exact h1
   ·rw[if_neg e2] at h2
    have h1:=of_decide_eq_true h1
    have h2:=of_decide_eq_true h2
    rw[if_neg (by omega)]
    exact decide_eq_true (by omega)
theorem Nh:∀ {a b:List Int},a.length=b.length→a≠b→Jf a b=false→Jf b a=true
 | [],[],_,h,_=>absurd rfl h
 | [],_::_,h,_,_=>by simp at h
 | _::_,[],h,_,_=>by simp at h
 | x :: a, y :: b, hl, hn, h => by
  unfold Jf at h ⊢
  by_cases e:x=y
  ·subst e
   simp only[if_true] at *
   exact Nh (by simpa using hl) (fun e=>hn (by rw[e])) h
  ·rw[if_neg e] at h
   have h:=of_decide_eq_false h
   rw[if_neg (Ne.symm e)]
   exact decide_eq_true (by omega)
theorem Qv {a b:List Int} (h:Jf a b=true):Jf b a=false:=by
 cases e:Jf b a with
 | false=>rfl
 | true=>have:=JO h e;rw[O9] at this;cases this
theorem I8 {n i:Nat} (h:i < n):AY (Int.ofNat i) (Int.ofNat n)=true:=by rw[Co];exact decide_eq_true h
theorem G5 {n i:Nat} (h:¬ i < n):AY (Int.ofNat i) (Int.ofNat n)=false:=by rw[Co];exact decide_eq_false h
theorem FY {n i:Nat} (h:i < n):an (Nat.blt i n) true=true:=by rw[CF,blt_eq,decide_eq_true h];rfl
def UO (x y:Int):Int:=if x < y then -1 else if y < x then 1 else 0
theorem p90 (k:Nat) (args:List Value):Bp (k+1) 65 args=m65 (Bp k) L args:=by kernel_rfl
theorem AiO (k:Nat) (args:List Value):Bp (k+1) 74 args=m74 (Bp k) L args:=by kernel_rfl
theorem AaT (n:Nat) (x:Int):Bp (n+1) 74 [I x]=some (.bool false):=by
 rw[AiO]
 show some (Value.bool (nt (Bd x x)))=_
 rw[Dn,decide_eq_true rfl];rfl
theorem kQ (n:Nat) (x y:Int):Bp (n+2) 65 [I x,I y]=some (I (UO x y)):=by
 rw[p90]
 unfold m65 Aau UO
 simp only[Dj,EG,BP,Ac,AaT,BU,AA,Jd]
 by_cases h1:x < y
 ·simp[h1]
 ·by_cases h2:y < x <;> simp[h1,h2]
def cmpL (a b:List Int):Int:=if Jf a b then -1 else if Jf b a then 1 else 0
theorem Ym (a b:List Int):AY (cmpL a b) 0=Jf a b:=by
 rw[Jd]
 unfold cmpL
 cases Jf a b <;> cases Jf b a <;> rfl
theorem kR {x y:Int} (h:x≠y) (a b:List Int):UO x y=cmpL (x::a) (y::b)∧UO x y≠0:=by
 unfold UO cmpL Jf
 rw[if_neg h,if_neg (Ne.symm h)]
 by_cases h1:x < y
 ·rw[if_pos h1,if_pos (decide_eq_true h1)];exact⟨rfl,by decide⟩
 ·rw[if_neg h1,if_pos (show y < x by omega),if_neg (by simpa using h1),if_pos (by simp;omega)];exact⟨rfl,by decide⟩
theorem ZB (x:Int) (a b:List Int):cmpL (x::a) (x::b)=cmpL a b:=by
 unfold cmpL
 simp only[Jf,if_true]
theorem p70 (k:Nat) (args:List Value):Bp (k+1) 45 args=m45 (Bp k) L args:=by kernel_rfl
theorem Wm (n M:Nat) {a b:List Int} (hab:a.length=b.length) (ha:a.length < 900000) (f1 f2:Nat):∀ (d w i:Nat),i+d=a.length→d < w →
 RU (Bp (n+2)) M w (sl f1 a) (sl f2 b) (sl f1 a) (.ofNat a.length) (.ofNat i)=some (I (cmpL (a.drop i) (b.drop i)))
 | _,0,_,_,h=>by omega
 | 0, w + 1, i, hd, _ => by
  show PI (Bp (n+2)) M (RU (Bp (n+2)) M w) (sl f1 a) (sl f2 b) (sl f1 a) (.ofNat a.length) (.ofNat i)=_
  unfold PI VM
  simp only[I4,G5 (show ¬ i < a.length from by omega),G5 (show ¬ a.length < b.length from by omega),AA,List.drop_eq_nil_of_le (show a.length≤i by omega),List.drop_eq_nil_of_le (show b.length≤i by omega)]
  rfl
 | d + 1, w + 1, i, hd, hw => by
  have h1:i < a.length:=by omega
  have h2:i < b.length:=by omega
  show PI (Bp (n+2)) M (RU (Bp (n+2)) M w) (sl f1 a) (sl f2 b) (sl f1 a) (.ofNat a.length) (.ofNat i)=_
  unfold PI
  simp only[I4,GX,I8 h1,I8 h2,Ak,Cx,Ac,FY h1,FY h2,Qr h1,Qr h2,BP,Dn,DC i (by omega),Wm n M hab ha f1 f2 d w (i+1) (by omega) (by omega),List.drop_eq_getElem_cons h1,List.drop_eq_getElem_cons h2,kQ,show nt true=false from rfl,AA]
  by_cases h:a[i]=b[i]
  ·rw[h,ZB,show UO b[i] b[i]=0 from by unfold UO;rw[if_neg (by omega),if_neg (by omega)]];rfl
  ·obtain⟨h3,h4⟩:=kR h (a.drop (i+1)) (b.drop (i+1))
   rw[decide_eq_false h4,h3];rfl
theorem Qw (n f1 f2:Nat) {a b:List Int} (hab:a.length=b.length) (ha:a.length < 900000):Bp (n+3) 45 [S f1 a,S f2 b]=some (I (cmpL a b)):=by
 rw[p70]
 exact Wm n L hab ha f1 f2 a.length L 0 (by omega) (by show _ < 1000000;omega)
end Go.BkQ
set_option maxRecDepth 100000
set_option maxHeartbeats 4000000
namespace Go.BkQ
open Go Go.Sp Go.BkMM
noncomputable def RW (l:List (List Int)):List Value:=l.map fun x=>Sl.v 1 (sl 0 x)
theorem Uy (l:List (List Int)):len (RW l)=l.length:=by rw[AV];simp[RW]
theorem gI (l m:List (List Int)):RW (l++m)=RW l++RW m:=by simp[RW]
theorem ZC (f:Nat) (x:List Int):Ah (Sl.v 1 (sl f x))=true:=rfl
theorem Cs (l:List (List Int)):Au Ah (RW l)=true:=by
 rw[Bh,List.all_eq_true]
 intro v hv
 obtain⟨x,_,rfl⟩:=List.mem_map.1 hv
 exact ZC 0 x
theorem Ahg {l:List (List Int)} {i:Nat} (h:i < l.length):AL (RW l) (0+i*1)=some (Sl.v 1 (sl 0 l[i])):=by
 rw[BZ,Nat.zero_add,Nat.mul_one];simp[RW,h]
theorem AaZ {l:List (List Int)} {i:Nat} (x:List Int) (h:i < l.length):BM ([(Sl.v 1 (sl 0 x))]:List Value) (0+i*1) (RW l)=RW (l.set i x):=by
 rw[Nat.zero_add,Nat.mul_one,Uw _ _ _ (by simpa [RW] using h)];simp[RW,List.map_set]
theorem gK (j:Nat) (h:j < 1000000):Aj .i64 (Int.sub (Int.ofNat (j+1)) 1)=Int.ofNat j:=by
 rw[show Int.sub (Int.ofNat (j+1)) 1=(j:Int) from by show ((j+1:Nat):Int) - 1=j;omega,Oe _ (by omega) (by omega)];rfl
theorem Aa0 {i n:Nat} (h:i < n):an (Nat.ble ((0+i*1)+1) n) true=true:=by
 rw[CF,ble_eq,decide_eq_true (by omega)];rfl
theorem kS {α:Type} {l:List α} (h:l≠[]):MQ l=false:=by
 cases l with
 | nil=>exact absurd rfl h
 | cons a l=>rfl
def JP:Nat→List (List Int)→List (List Int)
 | 0,l=>l
 | j+1,l=>if Jf (l.getD (j+1) []) (l.getD j []) then JP j ((l.set (j+1) (l.getD j [])).set j (l.getD (j+1) [])) else l
def LJ:Nat→Nat→List (List Int)→List (List Int)
 | 0,_,l=>l
 | d+1,i,l=>LJ d (i+1) (JP i l)
def Gq (m:Nat) (l:List (List Int)):Prop:=∀ x∈l,x.length=m
theorem Gq.set {m:Nat} {l:List (List Int)} (h:Gq m l) (i:Nat) {x:List Int} (hx:x.length=m):Gq m (l.set i x):=fun y hy=>by
 rcases List.mem_or_eq_of_mem_set hy with h2 | rfl
 ·exact h y h2
 ·exact hx
theorem Gq.at {m:Nat} {l:List (List Int)} (h:Gq m l) {i:Nat} (hi:i < l.length):(l[i]).length=m:=h _ (List.getElem_mem hi)
theorem Wn:∀ (j:Nat) (l:List (List Int)),(JP j l).length=l.length
 | 0,_=>rfl
 | j + 1, l => by
  unfold JP
  split
  ·rw[Wn j];simp
  ·rfl
theorem R5 {m:Nat}:∀ (j:Nat) {l:List (List Int)},j < l.length→Gq m l→Gq m (JP j l)
 | 0,_,_,h=>h
 | j + 1, l, hj, h => by
  unfold JP
  have e1:l.getD (j+1) []=l[j+1]:=by simp[List.getD_eq_getElem?_getD,hj]
  have e2:l.getD j []=l[j]:=by simp[List.getD_eq_getElem?_getD,show j < l.length by omega]
  split
  ·refine R5 j (by simp;omega) ((h.set _ ?_).set _ ?_)
   ·rw[e2];exact h.at _
   ·rw[e1];exact h.at _
  ·exact h
abbrev IhS:=Nat→Nat→Int→Int→Int→List Value→Option Value
theorem R6 (k M:Nat) (ih0:IhS) {m:Nat} (hm:m < 900000) {c i n:Nat} (hi:i < 999999):∀ (j w:Nat) {l:List (List Int)},l.length=n→j < n→n < 900000→Gq m l→j < w →
 HY (Bp (k+3)) M ih0 w n c 0 (.ofNat n) (.ofNat i) (.ofNat j) (RW l)=ih0 n c 0 (.ofNat n) (.ofNat (i+1)) (RW (JP j l))
 | _,0,_,_,_,_,_,h=>by omega
 | 0, w + 1, l, hl, hj, hn, he, hw => by
  show HV (Bp (k+3)) M ih0 (HY (Bp (k+3)) M ih0 w) n c 0 (.ofNat n) (.ofNat i) (.ofNat 0) (RW l)=_
  unfold HV Jw KV
  simp only[show AY 0 (Int.ofNat 0)=false from rfl,AA,Cs,Ak,DC i (by omega),JP]
 | j + 1, w + 1, l, hl, hj, hn, he, hw => by
  have h1:j+1 < l.length:=by omega
  have h0:j < l.length:=by omega
  have e1:l.getD (j+1) []=l[j+1]:=by simp[List.getD_eq_getElem?_getD,h1]
  have e2:l.getD j []=l[j]:=by simp[List.getD_eq_getElem?_getD,h0]
  have hc:=Qw k 0 0 (a:=l[j+1]) (b:=l[j]) (by rw[he.at,he.at]) (by rw[he.at];exact hm)
  have hc:Bp (k+3) 45 [Sl.v 1 (sl 0 l[j+1]),Sl.v 1 (sl 0 l[j])]=some (I (cmpL l[j+1] l[j])):=hc
  show HV (Bp (k+3)) M ih0 (HY (Bp (k+3)) M ih0 w) n c 0 (.ofNat n) (.ofNat i) (.ofNat (j+1)) (RW l)=_
  unfold HV Jw KV
  simp only[show AY 0 (Int.ofNat (j+1))=true from rfl,Ak,Cx,Ac,FY hj,FY (show j < n by omega),Ahg h1,Ahg h0,Dc,gK j (by omega),hc,BP,Cs,Ym,JP,e1,e2,DC i (by omega),AaZ l[j] h1,Uy,List.length_set,AaZ (l:=l.set (j+1) l[j]) l[j+1] (by simp;omega),Aa0 h1,Aa0 h0]
  cases h:Jf l[j+1] l[j] with
  | true =>
   rw[Ak,if_pos rfl]
   exact R6 k M ih0 hm hi j w (by simp[hl]) (by omega) hn ((he.set _ (he.at h0)).set _ (he.at h1)) (by omega)
  | false=>rw[AA];rfl
theorem R7 (k M:Nat) {m:Nat} (hm:m < 900000) {c n:Nat} (hM:n < M):∀ (d w i:Nat) {l:List (List Int)},l.length=n→i+d=n→1≤i→n < 900000→Gq m l→d < w →
 Eb (Bp (k+3)) M w n c 0 (.ofNat n) (.ofNat i) (RW l)=some (.tuple ⟨[.tuple ⟨[]⟩,.agg ⟨RW (LJ d i l)⟩]⟩)
 | _,0,_,_,_,_,_,_,_,h=>by omega
 | 0, w + 1, i, l, hl, hd, h1, hn, he, hw => by
  show Iq (Bp (k+3)) M (Eb (Bp (k+3)) M w) n c 0 (.ofNat n) (.ofNat i) (RW l)=_
  unfold Iq
  simp only[Cs,Ak,G5 (show ¬ i < n by omega),AA,LJ]
 | d + 1, w + 1, i, l, hl, hd, h1, hn, he, hw => by
  show Iq (Bp (k+3)) M (Eb (Bp (k+3)) M w) n c 0 (.ofNat n) (.ofNat i) (RW l)=_
  unfold Iq
  simp only[Cs,Ak,I8 (show i < n by omega),LJ]
  rw[R6 k M _ hm (by omega) i M hl (by omega) hn he (by omega)]
  exact R7 k M hm hM d w (i+1) (by rw[Wn,hl]) (by omega) (by omega) hn (R5 i (by omega) he) (by omega)
def FM (l:List (List Int)):List (List Int):=LJ (l.length - 1) 1 l
theorem Aa1 (k:Nat) (args:List Value):Bp (k+1) 10780 args=OD (Bp k) L args:=by kernel_rfl
theorem Aa2 (k:Nat) (args:List Value):Bp (k+1) 10700 args=OC (Bp k) L args:=by kernel_rfl
theorem Aa3 (k:Nat) (args:List Value):Bp (k+1) 10590 args=OB (Bp k) L args:=by kernel_rfl
noncomputable def iT (n c:Nat):Value:=.slice (some ⟨1,0,some 1⟩) n c
theorem ZE (k:Nat) {m:Nat} (hm:m < 900000) {c:Nat} {l:List (List Int)} (hl:1≤l.length) (hn:l.length < 900000) (he:Gq m l) :
 Bp (k+4) 10780 [iT l.length c,I 0,I (.ofNat l.length),.func (.func 45) ⟨[]⟩ ⟨[]⟩,.agg ⟨RW l⟩]=some (.tuple ⟨[.tuple ⟨[]⟩,.agg ⟨RW (FM l)⟩]⟩):=by
 rw[Aa1]
 show K6 (Bp (k+3)) L l.length c 0 (.ofNat l.length) (RW l)=_
 unfold K6
 rw[Cs,Ak]
 exact R7 k L hm (by show _ < 1000000;omega) (l.length - 1) L 1 rfl (by omega) (by omega) hn he (by show _ < 1000000;omega)
end Go.BkQ
set_option maxRecDepth 100000
set_option maxHeartbeats 4000000
namespace Go.BkQ
open Go Go.Sp Go.BkMM
def oZ (a b:List Int):Prop:=Jf b a=false
theorem ZF {m:Nat} {a b c:List Int} (ha:a.length=m) (hb:b.length=m) (hc:c.length=m) (h1:oZ a b) (h2:oZ b c):oZ a c:=by
 unfold oZ at *
 by_cases e:a=b
 ·subst e;exact h2
 ·have h3:=Nh (by rw[ha,hb]) (Ne.symm e) h1
  by_cases e2:b=c
  ·subst e2;exact h1
  ·have h4:=Nh (by rw[hb,hc]) (Ne.symm e2) h2
   exact Qv (JO h3 h4)
def Ha (l:List (List Int)):Prop:=l.Pairwise oZ
theorem ZG {m:Nat}:∀ (p:List (List Int)) (x:List Int) (t:List (List Int)),Ha p→Gq m p→x.length=m →
 ∃ q,JP p.length (p++x::t)=q++t∧q.Perm (x::p)∧Ha q:=by
 intro p
 induction h:p.length generalizing p with
 | zero =>
  intro x t _ _ _
  obtain rfl:=List.eq_nil_of_length_eq_zero h
  exact⟨[x],rfl,List.Perm.refl _,List.pairwise_singleton _ _⟩
 | succ j ih =>
  intro x t hs he hx
  obtain⟨p',y,rfl⟩:∃ p' y,p=p'++[y]:=⟨p.dropLast,p.getLast (by intro e;subst e;simp at h),(List.dropLast_concat_getLast _).symm⟩
  have hj:p'.length=j:=by simpa using h
  subst hj
  have hs':Ha p':=(List.pairwise_append.1 hs).1
  have hle:∀ z∈p',oZ z y:=fun z hz=>(List.pairwise_append.1 hs).2.2 z hz y List.mem_cons_self
  have he':Gq m p':=fun z hz=>he z (List.mem_append_left _ hz)
  have hy:y.length=m:=he y (by simp)
  have e1:(p'++[y]++x::t).getD (p'.length+1) []=x:=by simp[List.getD_eq_getElem?_getD]
  have e2:(p'++[y]++x::t).getD p'.length []=y:=by simp[List.getD_eq_getElem?_getD]
  unfold JP
  rw[e1,e2]
  by_cases hlt:Jf x y=true
  ·rw[if_pos hlt]
   have e3:((p'++[y]++x::t).set (p'.length+1) y).set p'.length x=p'++x::(y::t):=by
    rw[List.append_assoc]
    simp
   rw[e3]
   obtain⟨q,h1,h2,h3⟩:=ih p' rfl x (y::t) hs' he' hx
   refine⟨q++[y],by rw[h1];simp,?_,?_⟩
   ·exact(h2.append_right [y]).trans (by simp)
   ·refine List.pairwise_append.2 ⟨h3,List.pairwise_singleton _ _,fun a ha b hb=>?_⟩
    obtain rfl:=List.mem_singleton.1 hb
    rcases List.mem_cons.1 (h2.mem_iff.1 ha) with rfl | ha
    ·exact Qv hlt
    ·exact hle a ha
  ·rw[if_neg hlt]
   refine⟨p'++[y]++[x],by simp,List.perm_append_comm (l₁:=p'++[y]) (l₂:=[x]),?_⟩
   refine List.pairwise_append.2 ⟨hs,List.pairwise_singleton _ _,fun a ha b hb=>?_⟩
   obtain rfl:=List.mem_singleton.1 hb
   have hyx:oZ y b:=by unfold oZ;simpa using hlt
   rcases List.mem_append.1 ha with ha | ha
   ·exact ZF (he' a ha) hy hx (hle a ha) hyx
   ·obtain rfl:=List.mem_singleton.1 ha
    exact hyx
theorem Qz {m:Nat}:∀ (d i:Nat) (p t:List (List Int)),p.length=i→t.length=d→Ha p→Gq m (p++t)→(LJ d i (p++t)).Perm (p++t)∧Ha (LJ d i (p++t))
 | 0, i, p, t, _, ht, hs, _ => by
  obtain rfl:=List.eq_nil_of_length_eq_zero ht
  rw[List.append_nil]
  exact⟨List.Perm.refl _,hs⟩
 | d + 1, i, p, x :: t, hi, ht, hs, he => by
  subst hi
  have he1:Gq m p:=fun z hz=>he z (List.mem_append_left _ hz)
  obtain⟨q,h1,h2,h3⟩:=ZG p x t hs he1 (he x (by simp))
  show (LJ d (p.length+1) (JP p.length (p++x::t))).Perm _∧Ha (LJ d (p.length+1) (JP p.length (p++x::t)))
  rw[h1]
  have hp:(q++t).Perm (p++x::t):=(h2.append_right t).trans (by simpa using List.perm_middle.symm)
  obtain⟨h4,h5⟩:=Qz d (p.length+1) q t (by rw[h2.length_eq];rfl) (by simpa using ht) h3 (fun z hz=>he z (hp.mem_iff.1 hz))
  exact⟨h4.trans hp,h5⟩
theorem LW {m:Nat} {l:List (List Int)} (he:Gq m l):(FM l).Perm l∧Ha (FM l):=by
 cases l with
 | nil=>exact⟨List.Perm.refl _,List.Pairwise.nil⟩
 | cons x t=>exact Qz t.length 1 [x] t rfl rfl (List.pairwise_singleton _ _) he
theorem QA {m:Nat} {l:List (List Int)} (he:Gq m l):Gq m (FM l):=fun x hx=>he x ((LW he).1.mem_iff.1 hx)
theorem ZH {m:Nat} {l:List (List Int)} (he:Gq m l):(FM l).length=l.length:=(LW he).1.length_eq
theorem gL {c n:Nat} {l:List (List Int)} (h:1≤l.length):Dp (Nat.ble 2 c) (MQ (RW l))=Nat.ble 2 c:=by
 rw[kS (by intro e;have:=congrArg List.length e;simp[RW] at this;rw[this] at h;simp at h)]
 cases Nat.ble 2 c <;> rfl
theorem Aa4 (k:Nat) {m:Nat} (hm:m < 900000) {c:Nat} (z:Int) {l:List (List Int)} (hl:1≤l.length) (hn:l.length≤12) (hc:2≤c) (he:Gq m l) :
 Bp (k+5) 10700 [iT l.length c,I 0,I (.ofNat l.length),I z,.func (.func 45) ⟨[]⟩ ⟨[]⟩,.agg ⟨RW l⟩]=some (.tuple ⟨[.tuple ⟨[]⟩,.agg ⟨RW (FM l)⟩]⟩):=by
 rw[Aa2]
 show bb (Au Ah (RW l)) (KT (Bp (k+4)) L (KU (Bp (k+4)) L 999999) l.length c 0 (.ofNat l.length) z true true (RW l)) none=_
 rw[Cs,Ak]
 have h12:nt (AY (12:Int) (Aj .i64 (Int.sub (Int.ofNat l.length) 0)))=true:=by
  rw[show Int.sub (Int.ofNat l.length) 0=(l.length:Int) from by show (l.length:Int) - 0=_;omega,Oe _ (by omega) (by omega),Jd,decide_eq_false (by omega)];rfl
 have hi:=ZE k hm (c:=c) hl (by omega) he
 unfold iT at hi
 unfold KT
 simp only[Cs,Ak,h12,gL (c:=c) (n:=0) hl,ble_eq,decide_eq_true hc]
 rw[show ((0:Int))=(0:Int) from rfl,hi]
 show bb (MC (.tuple ⟨[]⟩)) (bb (Au Ah (RW (FM l))) (bb (Au Ah (RW (FM l))) _ none) none) none=_
 simp only[Cs,Ak];rfl
noncomputable def l13:List Nat:=[0,1,2,3,4,5,6,7,8,9,10,11,12]
noncomputable def Ahh (n:Nat):Nat:=bb (Nat.beq n 0) 0 (bb (Nat.ble n 1) 1 (bb (Nat.ble n 3) 2 (bb (Nat.ble n 7) 3 4)))
theorem gM (k:Nat):AP (fun n=>Bp (k+4) 71 [.int .u64 (Aj .u64 (.ofNat n))]) l13=AP (fun n=>some (I (.ofNat (Ahh n)))) l13:=by kernel_rfl
theorem kT {n:Nat} (h:n≤12):n∈l13:=by
 show n∈List.range 13
 exact List.mem_range.2 (by omega)
theorem kU (k:Nat) {m:Nat} (hm:m < 900000) {c:Nat} {l:List (List Int)} (hl:1≤l.length) (hn:l.length≤12) (hc:2≤c) (he:Gq m l) :
 Bp (k+6) 10590 [iT l.length c,.func (.func 45) ⟨[]⟩ ⟨[]⟩,.agg ⟨RW l⟩]=some (.tuple ⟨[.tuple ⟨[]⟩,.agg ⟨RW (FM l)⟩]⟩):=by
 rw[Aa3]
 have h1:=JN (gM (k+1)) l.length (kT hn)
 have h2:=Aa4 k hm (c:=c) (Int.ofNat (Ahh l.length)) hl hn hc he
 unfold iT at h2
 show bb (Au Ah (RW l)) (oo (Bp (k+1+4) 71 [(.int .u64 (Aj .u64 (Int.ofNat l.length)))]) none fun v7248=>(oo (Bi .i64 v7248) none fun x7250=>(bb (Dp (Nat.ble 2 c) (MQ (RW l))) (bb (Au Ah (RW l)) (oo (Bp (k+5) 10700 [(.slice (some ⟨1,0,some 1⟩) l.length c),(.int .i64 (0:Int)),(.int .i64 (Int.ofNat l.length)),(.int .i64 x7250),(.func (.func 45) ⟨[]⟩ ⟨[]⟩),(.agg ⟨RW l⟩)]) none _) none) none))) none=_
 rw[Cs,Ak,h1,Ac,BP,Ac,gL (n:=0) hl,ble_eq,decide_eq_true hc,Ak,Ak,h2]
 show bb (MC (.tuple ⟨[]⟩)) (bb (Au Ah (RW (FM l))) (bb (Au Ah (RW (FM l))) _ none) none) none=_
 rw[Cs];rfl
end Go.BkQ
set_option maxRecDepth 100000
set_option maxHeartbeats 4000000
namespace Go.BkQ
open Go Go.Sp Go.BkMM
theorem Yn {l:List (List Int)} {i:Nat} {x:List Int} (h:l[i]?=some x) (a:Nat) (ha:a=i):AL (RW l) a=some (Sl.v 1 (sl 0 x)):=by
 subst ha
 rw[BZ];simp[RW,h]
def Gs:List Int→List (List Int)→List (List Int)
 | _,[]=>[]
 | y,z::r=>if z=y then Gs y r else z::Gs z r
def QS:List (List Int)→List (List Int)
 | []=>[]
 | x::r=>x::Gs x r
noncomputable def zR (d:Nat):List Value:=AF ([(.slice none 0 0)]:List Value) d
theorem WW (d:Nat):zR d=List.replicate d (.slice none 0 0):=by
 apply List.ext_getElem?
 intro i
 unfold zR
 by_cases h:i < d
 ·rw[Eu _ (by simp) _ _ (by simpa using h)]
  simp[h,Nat.mod_one]
 ·rw[List.getElem?_eq_none (by rw[BJ];simp;omega),List.getElem?_eq_none (by simp;omega)]
theorem R8 (d:Nat):Au Ah (zR d)=true:=by
 rw[WW,Bh,List.all_eq_true]
 intro v hv
 rw[List.eq_of_mem_replicate hv];rfl
theorem ZI (d:Nat):Au D6 (zR d)=true:=by
 rw[WW,Bh,List.all_eq_true]
 intro v hv
 rw[List.eq_of_mem_replicate hv];rfl
theorem Wo {α:Type} (p:α→Bool) (a b:List α) (ha:Au p a=true) (hb:Au p b=true):Au p (a++b)=true:=by
 rw[Bh] at *
 rw[List.all_append,ha,hb];rfl
theorem Wp {α:Type}:∀ (a:List α) (ys b:List α),ys.length=b.length→BM ys a.length (a++b)=a++ys
 | [], ys, b, h => by
  show Br ys (Am (len ys) b)=_
  rw[BH,Bz,AV,h,List.drop_length];simp
 | x :: a, ys, b, h => by
  show x::BM ys a.length (a++b)=_
  rw[Wp a ys b h];rfl
abbrev IhC:=Nat→Nat→Int→List Value→Option Value
theorem LX (k M:Nat) (ih0:IhC) {m:Nat} (hm:m < 900000) {n c c2 base:Nat} (hn:n < 900000) (hc:n≤c / 2):∀ (R:List (List Int)) (w k2:Nat) (K G:List (List Int)) (y:List Int),
 G.getLast?=some y→K.length+G.length=base+k2→1≤k2→K.length+G.length+R.length=n→Gq m (K++G++R)→R.length < w →
 ∃ c',Iy (Bp (k+1)) M ih0 w n c (.ofNat K.length) base (n - base) c2 (.ofNat k2) (RW (K++G++R))=some (.tuple ⟨[iT (K++Gs y R).length c',.agg ⟨RW (K++Gs y R)++zR (n - (K++Gs y R).length)⟩]⟩)
 | _,0,_,_,_,_,_,_,_,_,_,h=>by omega
 | [], w + 1, k2, K, G, y, hy, hb, h1, hl, he, hw => by
  have hG:1≤G.length:=by
   cases G with
   | nil=>cases hy
   | cons a G=>simp
  have hl':K.length+G.length=n:=by simpa using hl
  have hz:(zR (n - K.length)).length=G.length:=by rw[WW,List.length_replicate];omega
  have hs:BM (zR (n - K.length)) (0+K.length*1) (RW (K++G))=RW K++zR (n - K.length):=by
   rw[gI,Nat.zero_add,Nat.mul_one,show K.length=(RW K).length from by simp[RW]]
   rw[Wp _ _ _ (by simp[RW] at *;omega)]
  refine⟨2*(c / 2)+bb (Dp false (Nat.beq (c % 2) 1)) 1 0,?_⟩
  show Ir (Bp (k+1)) M ih0 (Iy (Bp (k+1)) M ih0 w) n c (.ofNat K.length) base (n - base) c2 (.ofNat k2) (RW (K++G++[]))=_
  unfold Ir MR
  rw[List.append_nil]
  have hs':BM (AF ([(.slice none 0 0)]:List Value) (n - K.length)) (0+K.length*1) (RW (K++G))=RW K++zR (n - K.length):=hs
  simp only[Cs,Ak,G5 (show ¬ k2 < n - base by omega),AA,Cx,Ac,hs']
  rw[show Au D6 (AF ([(.slice none 0 0)]:List Value) (n - K.length))=true from ZI _,show len (AF ([(.slice none 0 0)]:List Value) (n - K.length))=G.length from by rw[AV];exact hz]
  rw[ble_eq,decide_eq_true (show K.length≤n by omega),show Nat.beq (n - K.length) 0=false from by cases e:Nat.beq (n - K.length) 0 with | false=>rfl | true=>have:=Nat.eq_of_beq_eq_true e;omega,Uy,ble_eq,decide_eq_true (show 0+K.length*1+G.length≤(K++G).length by simp),Wo _ _ _ (Cs K) (R8 _),ble_eq,decide_eq_true (show K.length≤c / 2 by omega)]
  show some _=_
  rw[show K++Gs y []=K from by simp[Gs]];rfl
 | z :: R, w + 1, k2, K, G, y, hy, hb, h1, hl, he, hw => by
  have hG:1≤G.length:=by
   cases G with
   | nil=>cases hy
   | cons a G=>simp
  have hrl:(z::R).length=R.length+1:=rfl
  have g1:(K++G++z::R)[base+k2]?=some z:=by
   rw[List.getElem?_append_right (by simp;omega)]
   simp[show base+k2 - (K.length+G.length)=0 by omega]
  have g2:(K++G++z::R)[base+(k2 - 1)]?=some y:=by
   rw[List.getElem?_append_left (by simp;omega),List.getElem?_append_right (by omega)]
   rw[List.getLast?_eq_getElem?] at hy
   rw[←hy];congr 1;omega
  have e1:=Yn g1 (base+k2*1) (by omega)
  have e2:=Yn g2 (base+(k2 - 1)*1) (by omega)
  have hz:z.length=m:=he z (by simp)
  have hq:=Wl k 0 0 (a:=z) (b:=y) (by rw[hz];exact hm)
  have hq:Bp (k+1) 37 [Sl.v 1 (sl 0 z),Sl.v 1 (sl 0 y)]=some (.bool (decide (z=y))):=hq
  obtain⟨k3,rfl⟩:∃ k3,k2=k3+1:=⟨k2 - 1,by omega⟩
  have e3:(K++G++z::R).set K.length z=(K++[z])++(G.tail++[z])++R:=by
   cases G with
   | nil=>cases hy
   | cons g G=>simp
  have hKl:K.length < (K++G++z::R).length:=by simp;omega
  have e4:=AaZ (l:=K++G++z::R) z hKl
  show ∃ c',Ir (Bp (k+1)) M ih0 (Iy (Bp (k+1)) M ih0 w) n c (.ofNat K.length) base (n - base) c2 (.ofNat (k3+1)) (RW (K++G++z::R))=_
  unfold Ir KX
  rw[Nat.add_sub_cancel] at e2
  simp only[Cs,Ak,I8 (show k3+1 < n - base by omega),Cx,Ac,FY (show k3+1 < n - base by omega),FY (show k3 < n - base by omega),e1,e2,Dc,gK k3 (by omega),hq,BU,FY (show K.length < n by omega),Uy,Aa0 hKl,e4,DC (k3+1) (by omega),DC K.length (by omega)]
  by_cases h:z=y
  ·rw[decide_eq_true h,show nt true=false from rfl,AA]
   subst h
   have ih:=LX k M ih0 hm hn hc (c2:=c2) (base:=base) R w (k3+1+1) K (G++[z]) z (by simp) (by simp;omega) (by omega) (by simp;omega) (by simpa using he) (by omega)
   rw[show Gs z (z::R)=Gs z R from by simp[Gs]]
   simpa using ih
  ·rw[decide_eq_false h,show nt false=true from rfl,Ak,e3]
   have ih:=LX k M ih0 hm hn hc (c2:=c2) (base:=base) R w (k3+1+1) (K++[z]) (G.tail++[z]) z (by simp) (by simp;omega) (by omega) (by simp;omega) (fun x hx=>by
    refine he x ?_
    simp only[List.mem_append,List.mem_singleton,List.mem_cons,List.not_mem_nil,or_false] at hx ⊢
    rcases hx with((hx | hx) | (hx | hx)) | hx
    ·exact .inl (.inl hx)
    ·exact .inr (.inl hx)
    ·exact .inl (.inr (List.mem_of_mem_tail hx))
    ·exact .inr (.inl hx)
    ·exact .inr (.inr hx)) (by omega)
   rw[show Gs y (z::R)=z::Gs z R from by simp[Gs,h]]
   simpa [List.append_assoc] using ih
theorem QB (k M:Nat) {m:Nat} (hm:m < 900000) {n c:Nat} (hn:n < 900000) (hc:n≤c / 2) (hM:n < M):∀ (R:List (List Int)) (w:Nat) (P:List (List Int)) (x:List Int),
 P.length+1+R.length=n→Gq m (P++x::R)→R.length < w →
 ∃ c' Z,Dy (Bp (k+1)) M w n c (.ofNat (P.length+1)) (RW (P++x::R))=some (.tuple ⟨[iT (P++x::Gs x R).length c',.agg ⟨RW (P++x::Gs x R)++Z⟩]⟩)∧Au Ah Z=true
 | _,0,_,_,_,_,h=>by omega
 | [], w + 1, P, x, hl, he, hw => by
  refine⟨c,[],?_,rfl⟩
  have hl:P.length+1=n:=by simpa using hl
  show Iz (Bp (k+1)) M (Dy (Bp (k+1)) M w) n c (.ofNat (P.length+1)) (RW (P++[x]))=_
  unfold Iz KW
  simp only[Cs,Ak,G5 (show ¬ P.length+1 < n by omega),G5 (show ¬ n < n by omega),AA,Gs,List.append_nil,List.length_append,List.length_singleton,hl]
  rfl
 | z :: R, w + 1, P, x, hl, he, hw => by
  have hrl:(z::R).length=R.length+1:=rfl
  have g1:(P++x::z::R)[P.length+1]?=some z:=by simp
  have g2:(P++x::z::R)[P.length]?=some x:=by simp
  have e1:=Yn g1 (0+(P.length+1)*1) (by omega)
  have e2:=Yn g2 (0+P.length*1) (by omega)
  have hz:z.length=m:=he z (by simp)
  have hq:=Wl k 0 0 (a:=z) (b:=x) (by rw[hz];exact hm)
  have hq:Bp (k+1) 37 [Sl.v 1 (sl 0 z),Sl.v 1 (sl 0 x)]=some (.bool (decide (z=x))):=hq
  show ∃ c' Z,Iz (Bp (k+1)) M (Dy (Bp (k+1)) M w) n c (.ofNat (P.length+1)) (RW (P++x::z::R))=_∧_
  unfold Iz MM
  simp only[Cs,Ak,I8 (show P.length+1 < n by omega),Cx,Ac,FY (show P.length+1 < n by omega),FY (show P.length < n by omega),e1,e2,Dc,gK P.length (by omega),hq,BU,DC (P.length+1) (by omega),ble_eq,decide_eq_true (show P.length+1≤n by omega)]
  by_cases h:z=x
  ·rw[decide_eq_true h,Ak]
   subst h
   obtain⟨c',h1⟩:=LX k M (Dy (Bp (k+1)) M w) hm hn hc (c2:=(2*(c / 2 - (P.length+1))+bb (Dp false (Nat.beq (c % 2) 1)) 1 0)) (base:=P.length+1) R M 1 (P++[z]) [z] z rfl (by simp) (Nat.le_refl _) (by simp;omega) (by simpa using he) (by omega)
   refine⟨c',zR (n - (P++z::Gs z R).length),?_,R8 _⟩
   rw[show Gs z (z::R)=Gs z R from by simp[Gs]]
   have e5:(P++[z]).length=P.length+1:=by simp
   rw[e5] at h1
   rw[show (0:Nat)+(P.length+1)*1=P.length+1 from by omega]
   simpa [List.append_assoc] using h1
  ·rw[decide_eq_false h,AA]
   rw[show Gs x (z::R)=z::Gs z R from by simp[Gs,h]]
   have ih:=QB k M hm hn hc hM R w (P++[x]) z (by simp;omega) (by simpa using he) (by omega)
   have e5:(P++[x]).length+1=P.length+1+1:=by simp
   rw[e5] at ih
   simpa [List.append_assoc] using ih
theorem Aa5 (k:Nat) (args:List Value):Bp (k+1) 10600 args=OE (Bp k) L args:=by kernel_rfl
theorem WX (k:Nat) {m:Nat} (hm:m < 900000) {c:Nat} {l:List (List Int)} (hl:1≤l.length) (hn:l.length < 900000) (hc:l.length≤c / 2) (he:Gq m l) :
 ∃ c' Z,Bp (k+2) 10600 [iT l.length c,.func (.func 37) ⟨[]⟩ ⟨[]⟩,.agg ⟨RW l⟩]=some (.tuple ⟨[iT (QS l).length c',.agg ⟨RW (QS l)++Z⟩]⟩)∧Au Ah Z=true:=by
 rw[Aa5]
 show ∃ c' Z,K7 (Bp (k+1)) L l.length c (RW l)=_∧_
 unfold K7
 rw[Cs,Ak]
 cases l with
 | nil=>simp at hl
 | cons x r =>
  cases r with
  | nil=>exact⟨c,[],rfl,rfl⟩
  | cons y r =>
   rw[Jd,decide_eq_false (show ¬ Int.ofNat (x::y::r).length < 2 by simp;omega),AA]
   exact QB k L hm hn hc (by show _ < 1000000;omega) (y::r) L [] x (by simp;omega) he (by simp at hn ⊢;show _ < 1000000;omega)
end Go.BkQ
set_option maxRecDepth 100000
set_option maxHeartbeats 4000000
namespace Go.BkQ
open Go Go.Sp Go.BkMM
theorem Qk {q:List (List Int)} {c:Nat} (hq:q.length≤2000) (hc:c / 2=q.length) (hc2:c % 2=0):GV 1 24 q.length c 1 (RW q)=true:=by
 unfold GV EQ
 rw[Uy,hc,hc2]
 rw[show Nat.ble ((4*(q.length+1)+4096)*24) 281474976710656=true from Nat.ble_eq_true_of_le (by omega),show Nat.ble (q.length+1) q.length=false from by rw[ble_eq];simp,show Nat.ble (0+q.length*1) q.length=true from Nat.ble_eq_true_of_le (by omega),show Nat.beq (0+q.length*1) q.length=true from by simp]
 rfl
theorem Ahi (q:List (List Int)) (x:List Int):Br (Am 0 (RW q)) [(Sl.v 1 (sl 0 x))]=RW (q++[x]):=by
 rw[BH,Bz,List.drop_zero,gI];rfl
theorem Aa6 (l:List (List Int)) (Z:List Value):Aq (l.length*1) (Am 0 (RW l++Z))=RW l:=by
 rw[Cg,Bz,List.drop_zero,Nat.mul_one]
 rw[List.take_append_of_le_length (by simp[RW])]
 exact List.take_of_length_le (by simp[RW])
theorem Ahj (l:List (List Int)) (Z:List Value):an (Nat.ble (0+l.length*1) (len (RW l++Z))) (Au Ah (RW l))=true:=by
 rw[Cs,AV,List.length_append,show Nat.ble (0+l.length*1) ((RW l).length+Z.length)=true from Nat.ble_eq_true_of_le (by simp[RW])];rfl
theorem kV (n c:Nat):KP 1 0 1 (.slice (some ⟨1,0,some 1⟩) n c)=some ⟨n,c⟩:=rfl
theorem gP:MC (.tuple ⟨[]⟩)=true:=rfl
theorem Aa7 (l:List (List Int)) (Z:List Value):Nat.ble (0+l.length*1) (len (RW l++Z))=true:=(Av (Ahj l Z)).1
noncomputable def SR (l:List (List Int)):Value:=Sl.v 1 ⟨l.length,0,RW l⟩
theorem kW (k M:Nat) {m:Nat} (hm:m < 900000) {c:Nat} {l:List (List Int)} (hl:1≤l.length) (hn:l.length≤12) (hc:c / 2=l.length) (he:Gq m l) :
 RP (Bp (k+6)) M l.length c (RW l)=some (SR (QS (FM l))):=by
 have h1:=kU k hm (c:=c) hl hn (by omega) he
 have hs:=ZH he
 obtain⟨c',Z,h2,hZ⟩:=WX (k+4) hm (c:=c) (l:=FM l) (by omega) (by omega) (by omega) (QA he)
 rw[hs] at h2
 unfold iT at h1 h2
 have hcl:Au Ah (RW (QS (FM l))++Z)=true:=Wo _ _ _ (Cs _) hZ
 have hcc:2≤c:=by omega
 have hor:∀ q:List Value,Dp (Nat.ble 2 c) (MQ q)=true:=fun q=>by rw[ble_eq,decide_eq_true hcc];rfl
 unfold RP
 simp only[hor,Ak,Cs,h1,Ac,FW,Dj,EG,gP,RL,h2,kV,hcl,Aa6,Aa7 (QS (FM l)) Z]
 rfl
noncomputable def FK (r c:Nat) (x:List Int) (us:List Nat):List (List Int):=us.map fun t=>pick x (cellL r c t)
theorem WY {r c:Nat} {us ts:List Nat} {x:List Int} (hg:(r,c,us)∈A7) (hs:∀ t∈ts,t∈us):Gq (r*c) (FK r c x ts):=fun y hy=>by
 obtain⟨t,ht,rfl⟩:=List.mem_map.1 hy
 rw[Qu,((BO hg).row t (hs t ht)).2.1]
theorem Wq (n M f g:Nat) {r c k:Nat} {us:List Nat} {x:List Int} (hg:(r,c,us)∈A7) (hx:x.length=r*c) (hus:1≤us.length):∀ (d w i cc:Nat) (q:List (List Int)),i+d=us.length→d < w→q=FK r c x (us.take i)→cc / 2=i→cc % 2=0 →
 Ps (Bp (n+6)) M w 0 (Eo r c k f us) (sl g x) i cc (.ofNat us.length) (.ofNat i) (RW q)=some (SR (QS (FM (FK r c x us))))
 | _,0,_,_,_,_,h,_,_,_=>by omega
 | 0, w + 1, i, cc, q, hd, _, hq, hcc, _ => by
  have hp:=BO hg
  obtain rfl:i=us.length:=by omega
  replace hq:q=FK r c x us:=by rw[hq,List.take_length]
  have hql:q.length=us.length:=by rw[hq];simp[FK]
  show Pq (Bp (n+6)) M (Ps (Bp (n+6)) M w) 0 (Eo r c k f us) (sl g x) us.length cc (.ofNat us.length) (.ofNat us.length) (RW q)=_
  unfold Pq
  simp only[Cs,Ak,G5 (Nat.lt_irrefl us.length),AA]
  have he:Gq (r*c) q:=by rw[hq];exact WY hg fun t h=>h
  have hrc:r*c≤16:=Nat.mul_le_mul hp.r4 hp.c4
  have h:=kW n M (m:=r*c) (by omega) (c:=cc) (l:=q) (by omega) (by have:=hp.len8;omega) (by omega) he
  rw[hql] at h
  rw[h,hq]
 | d + 1, w + 1, i, cc, q, hd, hw, hq, hcc, hcc2 => by
  have hp:=BO hg
  have hrc:r*c≤16:=Nat.mul_le_mul hp.r4 hp.c4
  have hi:i < us.length:=by omega
  have hl8:=hp.len8
  have hat:us[i]?=some us[i]:=List.getElem?_eq_getElem hi
  have hmem:us[i]∈us:=List.getElem_mem hi
  have hql:q.length=i:=by rw[hq];simp[FK];omega
  obtain⟨_,q1,q2⟩:=hp.row us[i] hmem
  have htu := Zy (n + 5) g 0 (d0 := I (.ofNat r)) (d1 := I (.ofNat c)) (d2 := I (.ofNat k)) (d3 := Sl.v 1 ⟨len us, f, Fh us⟩) (rows := Nc r c us) (m := len us) (i := i) (row := cellL r c us[i]) (x := x)
   (by rw[BZ,Nat.mul_one,show Nc r c us=us.map fun t=>Pj (cellL r c t) from Cc _ _,List.getElem?_map,hat];rfl) (by rw[AV];exact hi) (by rw[q1,hx]) (fun k hk=>by rw[hx];exact q2 k hk) (by rw[hx];omega)
  have htu:Bp (n+6) 34 [Cv 0 (Eo r c k f us),Sl.v 1 (sl g x),I (.ofNat i)]=some (Sl.v 1 (sl 0 (pick x (cellL r c us[i])))):=htu
  have hg2:=Qk (q:=q) (c:=cc) (by omega) (by omega) hcc2
  rw[hql] at hg2
  show Pq (Bp (n+6)) M (Ps (Bp (n+6)) M w) 0 (Eo r c k f us) (sl g x) i cc (.ofNat us.length) (.ofNat i) (RW q)=_
  unfold Pq
  simp only[Cs,Ak,I8 hi,htu,Ac,Dc,hg2,Ahi,DC i (by omega)]
  refine Wq n M f g (k:=k) hg hx hus d w (i+1) _ _ (by omega) (by omega) ?_ ?_ ?_
  ·rw[hq,FK,FK,List.take_add_one,hat,List.map_append];rfl
  ·show (2*(i+1)+0) / 2=_;omega
  ·show (2*(i+1)+0) % 2=_;omega
theorem p52 (k:Nat) (args:List Value):Bp (k+1) 35 args=m35 (Bp k) L args:=by kernel_rfl
theorem Aa8 (n f g:Nat) {r c k:Nat} {us:List Nat} {x:List Int} (hg:(r,c,us)∈A7) (hx:x.length=r*c) (hus:1≤us.length):Bp (n+7) 35 [QR r c k f us,S g x]=some (SR (QS (FM (FK r c x us)))):=by
 rw[p52]
 show oo (AL (Eo r c k f us) 3) none (fun v12951=>(oo (Bj 1 v12951) none fun s12953=>(Ps (Bp (n+6)) L L 0 (Eo r c k f us) (sl g x) 0 0 (Int.ofNat (Sl.n s12953)) (0:Int) ([]:List Value))))=_
 rw[show AL (Eo r c k f us) 3=some (Sl.v 1 ⟨len us,f,Fh us⟩) from rfl,Ac,Dc,Ac]
 have h:=Wq n L f g (k:=k) hg hx hus us.length L 0 0 [] (by omega) (by have:=(BO hg).len8;show _ < 1000000;omega) (by simp[FK]) rfl rfl
 rw[←AV] at h
 exact h
end Go.BkQ
set_option maxRecDepth 100000
set_option maxHeartbeats 4000000
namespace Go.BkQ
open Go Go.Sp Go.BkMM
def QC (l:List (List Int)):Prop:=l.Pairwise fun a b=>Jf a b=true
theorem Uz {y:List Int}:∀ {r:List (List Int)} {x:List Int},x∈y::Gs y r↔x∈y::r
 | [],_=>Iff.rfl
 | z :: r, x => by
  unfold Gs
  by_cases h:z=y
  ·subst h
   rw[if_pos rfl,Uz (r:=r)]
   simp
  ·rw[if_neg h]
   rw[List.mem_cons,Uz (y:=z) (r:=r),←List.mem_cons]
theorem LY {m:Nat}:∀ {y:List Int} {r:List (List Int)},Ha (y::r)→Gq m (y::r)→QC (y::Gs y r)
 | _,[],_,_=>List.pairwise_singleton _ _
 | y, z :: r, hs, he => by
  have hy:y.length=m:=he y (by simp)
  have hz:z.length=m:=he z (by simp)
  have h1:=List.pairwise_cons.1 hs
  unfold Gs
  by_cases h:z=y
  ·subst h
   rw[if_pos rfl]
   exact LY h1.2 fun x hx=>he x (List.mem_cons_of_mem _ hx)
  ·rw[if_neg h]
   have ih:=LY h1.2 (m:=m) fun x hx=>he x (List.mem_cons_of_mem _ hx)
   have hlt:Jf y z=true:=Nh (by rw[hz,hy]) h (h1.1 z (by simp))
   refine List.pairwise_cons.2 ⟨fun x hx=>?_,ih⟩
   rcases List.mem_cons.1 hx with rfl | hx
   ·exact hlt
   ·exact JO hlt ((List.pairwise_cons.1 ih).1 x hx)
theorem QC.sorted {l:List (List Int)} (h:QC l):Ha l:=h.imp fun h=>Qv h
theorem R9 {m:Nat} {l:List (List Int)} (he:Gq m l):QC (QS (FM l))∧∀ x,x∈QS (FM l)↔x∈l:=by
 obtain⟨hp,hs⟩:=LW he
 have he2:=QA he
 cases h:FM l with
 | nil =>
  rw[h] at hp
  obtain rfl:=List.Perm.nil_eq hp
  exact⟨List.Pairwise.nil,fun x=>Iff.rfl⟩
 | cons y r =>
  rw[h] at hs hp he2
  exact⟨LY hs he2,fun x=>(Uz (y:=y) (r:=r)).trans hp.mem_iff⟩
end Go.BkQ
set_option maxRecDepth 100000
set_option maxHeartbeats 4000000
namespace Go.BkQ
open Go Go.Sp Go.BkMM
end Go.BkQ
set_option maxRecDepth 100000
set_option maxHeartbeats 4000000
namespace Go.BkQ
open Go Go.Sp Go.BkMM
theorem UA (off:Nat) (cs:List Value):Pv (Cv off cs)=some ⟨off,cs⟩:=rfl
theorem NA {α:Type} (a:α):isS (some a)=true:=rfl
theorem gQ:Au (fun p:Nat×Nat×List Nat=>AaQ p.2.2 0) A7=true:=by kernel_rfl
theorem Ws {r c:Nat} {us:List Nat} (hg:(r,c,us)∈A7):0∈us:=by
 have h:=gQ
 rw[Bh,List.all_eq_true] at h
 exact gD.1 (h _ hg)
noncomputable def LZ (r c:Nat) (x:List Int) (us:List Nat):List (List Int):=QS (FM (FK r c x us))
theorem p20 (k:Nat) (args:List Value):Bp (k+1) 14 args=m14 (Bp k) L args:=by kernel_rfl
theorem Nz {α:Type}:isS (none:Option α)=false:=rfl
end Go.BkQ
