/- Made from wip. -/
import Derived.Test.YtokbaaeimejjlaaGreatDoorBkV7x

set_option maxRecDepth 100000
set_option maxHeartbeats 4000000
namespace Go.BkQ
open Go Go.Sp Go.BkVM
theorem p46 (k:Nat) (args:List Value):Bp (k+1) 46 args=m46 (Bp k) L args:=by kernel_rfl
theorem p47 (k:Nat) (args:List Value):Bp (k+1) 47 args=m47 (Bp k) L args:=by kernel_rfl
theorem p50 (k:Nat) (args:List Value):Bp (k+1) 50 args=m50 (Bp k) L args:=by kernel_rfl
theorem p43 (k:Nat) (args:List Value):Bp (k+1) 43 args=m43 (Bp k) L args:=by kernel_rfl
theorem Abx (k:Nat) (args:List Value):Bp (k+1) 10481 args=OG (Bp k) L args:=by kernel_rfl
noncomputable def Eo (R C K:Int) (ts x:List Int):Int:=if Fh R C K ts=0 then Gq R.toNat C.toNat K.toNat x else Fh R C K ts
theorem Xd (pu:Af) (M:Nat) {w:Nat} {s s':Sl} {e i R C K:Int} (h:e≠0):KV pu M (w+1) s e i R C K s'=some (I e):=by
 show bb (AY i (Int.ofNat s.n)) (bb (Bd e 0) _ (some (I e))) (some (I e))=_
 rw[Co,decide_eq_false h]
 cases AY i (Int.ofNat s.n) <;> rfl
theorem iZ (n M f:Nat) {R C:Int} {k:Nat} {s':Sl} {x:List Int} (hk:1≤k∧k≤4) (hl:x.length < 900000):∀ (rest:List Int) (w i:Nat),x.drop i=rest→rest.length+1 < w →
 KV (Bp (n+1)) M w (sl f x) 0 (.ofNat i) R C (.ofNat k) s'=some (I (if (∀ z∈rest,0≤z∧z < (k:Int)) then 0 else 1))
 | _,0,_,_,h=>by omega
 | [], w + 1, i, hd, _ => by
  have h1:=Iz hd
  show bb (AY (.ofNat i) (.ofNat x.length)) _ (some (I 0))=_
  rw[BI,decide_eq_false (by omega),AA,if_pos (by simp)]
 | z :: rest, w + 1, i, hd, hw => by
  obtain⟨hd2,hi,_⟩:=Ni hd
  have hlt:Nat.blt i x.length=true:=by rw[blt_eq];simp;omega
  have hrl:(z::rest).length=rest.length+1:=rfl
  show V3 (Bp (n+1)) M (KV (Bp (n+1)) M w) (sl f x) 0 (.ofNat i) R C (.ofNat k) s'=_
  unfold V3
  rw[I4,BI,decide_eq_true hi,Ak]
  unfold VZ
  rw[show Bd (0:Int) 0=true from rfl,Ak,Cx,Ac,I4,GX,hlt,show an true true=true from rfl,Ak,UI hd,Ac,BP,Ac,Sr,Ac,BU,Ac,show Aj .i64 (Int.sub (Int.ofNat k) (1:Int))=(k:Int) - 1 from Oe _ (by show (-9223372036854775808:Int)≤(k:Int) - 1;omega) (by show (k:Int) - 1≤9223372036854775807;omega)]
  by_cases hz:0≤z∧z < (k:Int)
  ·rw[show decide ((0:Int)≤z∧z≤(k:Int) - 1)=true from decide_eq_true (by omega),show nt true=false from rfl,AA]
   show KV (Bp (n+1)) M w (sl f x) 0 (Aj .i64 (Int.add (.ofNat i) (1:Int))) R C (.ofNat k) s'=_
   rw[DC i (by omega),iZ n M f hk hl rest w (i+1) hd2 (by omega)]
   by_cases hr:∀ z∈rest,0≤z∧z < (k:Int)
   ·rw [if_pos hr, if_pos fun y hy => by
     rcases List.mem_cons.1 hy with rfl | hy
     ·exact hz
     ·exact hr y hy]
   ·rw[if_neg hr,if_neg fun h=>hr fun y hy=>h y (List.mem_cons_of_mem _ hy)]
  ·rw[show decide ((0:Int)≤z∧z≤(k:Int) - 1)=false from decide_eq_false (by omega),show nt false=true from rfl,Ak]
   show KV (Bp (n+1)) M w (sl f x) 1 _ R C (.ofNat k) s'=_
   obtain⟨w,rfl⟩:∃ v,w=v+1:=⟨w - 1,by omega⟩
   rw[Xd _ _ (by omega),if_neg fun h=>hz (h z List.mem_cons_self)]
theorem O1 (n f g:Nat) {R C K:Int} {ts x:List Int} (hl:ts.length≤100) (hx:x.length < 900000):Bp (n+7) 46 [.agg ⟨[I R,I C,I K,S f ts]⟩,S g x]=some (I (Eo R C K ts x)):=by
 rw[p46]
 show oo (Bp (n+6) 36 [.agg ⟨[I R,I C,I K,S f ts]⟩]) none (fun v4571=>(oo (Bi .i64 v4571) none fun x4573=>(bb (Bd x4573 (0:Int)) (Qr (Bp (n+6)) L (sl g x) x4573 (nt (Bd (Int.ofNat x.length) (Aj .i64 (Int.mul R C)))) R C K (sl f ts)) (Qr (Bp (n+6)) L (sl g x) x4573 false R C K (sl f ts)))))=_
 rw[iV n f hl,Ac,BP,Ac,Co]
 unfold Eo
 by_cases h:Fh R C K ts=0
 ·rw[if_pos h,decide_eq_true h,Ak,h]
  obtain⟨r,c,k,us,rfl,rfl,rfl,rfl,hg,hk⟩:=OM h
  have hp:=Cs hg
  have hrc:r*c≤16:=Nat.mul_le_mul hp.r4 hp.c4
  rw[show Int.mul (Int.ofNat r) (Int.ofNat c)=Int.ofNat (r*c) from rfl,Oe _ (by simp;omega) (by simp;omega),DT]
  unfold Gq
  show Qr (Bp (n+6)) L (sl g x) 0 (nt (Nat.beq x.length (r*c))) (.ofNat r) (.ofNat c) (.ofNat k) (sl f (us.map Int.ofNat))=some (I (if x.length≠r*c then 5 else if (∀ z∈x,0≤z∧z < (k:Int)) then 0 else 1))
  by_cases hx2:x.length=r*c
  ·rw[if_neg (by simpa using hx2),hx2,show Nat.beq (r*c) (r*c)=true from by simp]
   show KV (Bp (n+6)) L L (sl g x) 0 (.ofNat 0) (.ofNat r) (.ofNat c) (.ofNat k) (sl f (us.map Int.ofNat))=_
   exact iZ (n+5) L g (by omega) hx x L 0 List.drop_zero (by show _ < 1000000;omega)
  ·rw[if_pos hx2,show Nat.beq x.length (r*c)=false from by cases e:Nat.beq x.length (r*c) with | false=>rfl | true=>exact absurd (Nat.eq_of_beq_eq_true e) hx2]
   exact Xd (w:=999999) _ _ (by omega)
 ·rw[if_neg h,decide_eq_false h,AA]
  exact Xd (w:=999999) _ _ h
theorem jA (pu:Af) (M:Nat) {a b:List Int} (hab:a.length=b.length) (hl:a.length < 900000) (f1 f2:Nat):∀ (r r':List Int) (w i:Nat),a.drop i=r→b.drop i=r'→r.length < w →
 V6 pu M w (sl f1 a) (sl f2 b) (.ofNat i)=some (.bool (decide (r=r')))
 | _,_,0,_,_,_,h=>by omega
 | [], r', w + 1, i, hd, hd', _ => by
  have h1:=Iz hd
  have h2:r'=[]:=by rw[←hd'];exact List.drop_eq_nil_iff.2 (by omega)
  subst h2
  show bb (AY (.ofNat i) (.ofNat a.length)) _ (some (Value.bool true))=_
  rw[BI,decide_eq_false (by omega)];rfl
 | x :: r, r', w + 1, i, hd, hd', hw => by
  obtain⟨hd2,hi,_⟩:=Ni hd
  cases r' with
  | nil=>have h1:=Iz hd';omega
  | cons y r' =>
   obtain⟨hd3,hi3,_⟩:=Ni hd'
   have hr:(x::r).length=r.length+1:=rfl
   have hlt:Nat.blt i a.length=true:=by rw[blt_eq];simp;omega
   have hlt2:Nat.blt i b.length=true:=by rw[blt_eq];simp;omega
   have ih:=jA pu M hab hl f1 f2 r r' w (i+1) hd2 hd3 (by omega)
   show V5 pu M (V6 pu M w) (sl f1 a) (sl f2 b) (.ofNat i)=_
   unfold V5
   rw[I4,BI,decide_eq_true hi,Ak,Cx,Ac,I4,GX,GX,hlt,hlt2,show an true true=true from rfl,Ak,UI hd,Ac,BP,Ac,Ak,UI hd',Ac,BP,Ac,DC i (by omega),ih,Co]
   by_cases h:x=y
   ·subst h;simp
   ·have hc:¬ (x::r=y::r'):=fun e=>h (by injection e)
    rw[decide_eq_false h,decide_eq_false hc];rfl
theorem bU (n f1 f2:Nat) {a b:List Int} (h:a.length=b.length) (hl:a.length < 900000):Bp (n+1) 50 [S f1 a,S f2 b]=some (.bool (decide (a=b))):=by
 rw[p50]
 exact jA (Bp n) L h hl f1 f2 a b L 0 List.drop_zero List.drop_zero (by show _ < 1000000;omega)
end Go.BkQ
set_option maxRecDepth 100000
set_option maxHeartbeats 4000000
namespace Go.BkQ
open Go Go.Sp Go.BkVM
theorem UK:∀ n,upN n=List.range n
 | 0=>rfl
 | n + 1 => by
  show Br (upN n) [n]=_
  rw[BH,UK n,List.range_succ]
theorem WC (r c t:Nat):cellL r c t=(List.range (r*c)).map (HV r c t):=by
 show AP (HV r c t) (upN (r*c))=_
 rw[Cc,UK]
theorem bV (n:Nat) (K:Int) (s:Sl):AP (fun p:Nat×Nat=>AP (fun t=>AP (fun i=>Bp (n+2) 81 [.agg ⟨[I (.ofNat p.1),I (.ofNat p.2),I K,Sl.v 1 s]⟩,I (.ofNat t),I (.ofNat i)]) (upN (p.1*p.2))) (G5 (Nat.beq p.1 p.2))) LY=AP (fun p=>AP (fun t=>AP (fun i=>some (I (.ofNat (HV p.1 p.2 t i)))) (upN (p.1*p.2))) (G5 (Nat.beq p.1 p.2))) LY:=by kernel_rfl
theorem jC:Au (fun p:Nat×Nat×List Nat=>Au (fun t=>Xb (G5 (Nat.beq p.1 p.2.1)) t) p.2.2) BO=true:=by kernel_rfl
theorem jD {r c:Nat} {us:List Nat} (hg:(r,c,us)∈BO) {t:Nat} (ht:t∈us):t∈G5 (Nat.beq r c):=by
 have h:=jC
 rw[Bh,List.all_eq_true] at h
 have h:=h _ hg
 rw[Bh,List.all_eq_true] at h
 exact iI.1 (h t ht)
theorem mQ (n:Nat) {K:Int} {s:Sl} {r c t i:Nat} (hr:1≤r∧r≤4) (hc:1≤c∧c≤4) (ht:t∈G5 (Nat.beq r c)) (hi:i < r*c):Bp (n+2) 81 [.agg ⟨[I (.ofNat r),I (.ofNat c),I K,Sl.v 1 s]⟩,I (.ofNat t),I (.ofNat i)]=some (I (.ofNat (HV r c t i))):=by
 have h1:=Eb (f:=fun p:Nat×Nat=>AP (fun t=>AP (fun i=>Bp (n+2) 81 [.agg ⟨[I (.ofNat p.1),I (.ofNat p.2),I K,Sl.v 1 s]⟩,I (.ofNat t),I (.ofNat i)]) (upN (p.1*p.2))) (G5 (Nat.beq p.1 p.2))) (g:=fun p=>AP (fun t=>AP (fun i=>some (I (.ofNat (HV p.1 p.2 t i)))) (upN (p.1*p.2))) (G5 (Nat.beq p.1 p.2))) (bV n K s) (r,c) (K6 hr hc)
 have h2:=Eb (f:=fun t=>AP (fun i=>Bp (n+2) 81 [.agg ⟨[I (.ofNat r),I (.ofNat c),I K,Sl.v 1 s]⟩,I (.ofNat t),I (.ofNat i)]) (upN (r*c))) (g:=fun t=>AP (fun i=>some (I (.ofNat (HV r c t i)))) (upN (r*c))) h1 t ht
 exact Eb (f:=fun i=>Bp (n+2) 81 [.agg ⟨[I (.ofNat r),I (.ofNat c),I K,Sl.v 1 s]⟩,I (.ofNat t),I (.ofNat i)]) (g:=fun i=>some (I (.ofNat (HV r c t i)))) h2 i (by rw[UK];exact List.mem_range.2 hi)
theorem rC (l:List Int):Aq (l.length*1) (Am 0 (l.map I))=l.map I:=by rw[Cg,Bz,List.drop_zero,Nat.mul_one];exact List.take_of_length_le (by simp)
theorem AhN (l:List Int):an (Nat.ble (0+l.length*1) (len (l.map I))) (Au Ah (l.map I))=true:=by
 rw[Pj,AV,show Nat.ble (0+l.length*1) (l.map I).length=true from Nat.ble_eq_true_of_le (by simp)];rfl
theorem Ov (n M f:Nat) {K:Int} {s:Sl} {r c t:Nat} {x:List Int} (hr:1≤r∧r≤4) (hc:1≤c∧c≤4) (ht:t∈G5 (Nat.beq r c)) (hx:x.length=r*c) (hlt:∀ k∈cellL r c t,k < x.length):∀ (d i w:Nat) (q:List Int) (cc:Nat),i+d=r*c→d < w→q.length=i→cc / 2=q.length→cc % 2=0 →
 K5 (Bp (n+2)) M w (sl f x) (.ofNat t) q.length cc (.ofNat i) (.ofNat r) (.ofNat c) K s (q.map I)=some (.tuple ⟨[S 0 (q++pick x ((cellL r c t).drop i))]⟩)
 | _,_,0,_,_,_,h,_,_,_=>by omega
 | 0, i, w + 1, q, cc, hd, _, hq, _, _ => by
  show bb (Au Ah (q.map I)) (bb (AY (.ofNat i) (.ofNat x.length)) _ (bb (Au Ah (q.map I)) (bb (an (Nat.ble (0+q.length*1) (len (q.map I))) (Au Ah (Aq (q.length*1) (Am 0 (q.map I))))) (some (Value.tuple ⟨[(Sl.v 1 (Sl.mk q.length 0 (Aq (q.length*1) (Am 0 (q.map I)))))]⟩)) none) none)) none=_
  rw[Pj,Ak,BI,decide_eq_false (by omega),AA,Ak,rC,AhN,Ak]
  have:(cellL r c t).drop i=[]:=by rw[WC];exact List.drop_eq_nil_iff.2 (by simp;omega)
  rw[this,show pick x []=[] from rfl,List.append_nil];rfl
 | d + 1, i, w + 1, q, cc, hd, hw, hq, hcc, hcc2 => by
  have hi:i < r*c:=by omega
  have hrc:r*c≤16:=Nat.mul_le_mul hr.2 hc.2
  have hget:(cellL r c t)[i]?=some (HV r c t i):=by rw[WC];simp[hi]
  have hk:=hlt _ (List.mem_of_getElem? hget)
  have yY:(cellL r c t).drop i=HV r c t i::(cellL r c t).drop (i+1):=by
   have hl:i < (cellL r c t).length:=(List.getElem?_eq_some_iff.1 hget).1
   rw[List.drop_eq_getElem_cons hl]
   congr 1
   exact(List.getElem?_eq_some_iff.1 hget).2
  have hpk:pick x ((cellL r c t).drop i)=x.getD (HV r c t i) 0::pick x ((cellL r c t).drop (i+1)):=by rw[yY];rfl
  show K4 (Bp (n+2)) M (K5 (Bp (n+2)) M w) (sl f x) (.ofNat t) q.length cc (.ofNat i) (.ofNat r) (.ofNat c) K s (q.map I)=_
  unfold K4
  rw[Pj,Ak,I4,BI,decide_eq_true (by omega),Ak,mQ n hr hc ht hi,Ac,BP,Ac,Cx,Ac,show Nat.blt (HV r c t i) x.length=true from by rw[blt_eq];simpa using hk,show an true true=true from rfl,Ak,GX,LX hk,Ac,BP,Ac,AhI (by omega) hcc hcc2,Ak,AhJ,Pj,Ak,DC i (by omega)]
  have ih:=Ov n M f (K:=K) (s:=s) hr hc ht hx hlt d (i+1) w (q++[x[HV r c t i]]) (2*(q.length+1)+bb false 1 0) (by omega) (by omega) (by simp;omega) (by rw[List.length_append];show (2*(q.length+1)+0) / 2=q.length+1;omega) (by show (2*(q.length+1)+0) % 2=0;omega)
  rw[List.length_append] at ih
  refine ih.trans ?_
  rw[hpk,List.append_assoc,show x.getD (HV r c t i) 0=x[HV r c t i] from by simp[List.getD_eq_getElem?_getD,hk]];rfl
theorem Xe (n f fl:Nat) {r c k t:Nat} {us:List Nat} {x:List Int} (hg:(r,c,us)∈BO) (ht:t∈us) (hx:x.length=r*c):Bp (n+3) 10481 [Jd r c k fl us,S f x,I (.ofNat t)]=some (.tuple ⟨[S 0 (pick x (cellL r c t))]⟩):=by
 have hp:=Cs hg
 rw[Abx]
 have h:=Ov n L f (K:=.ofNat k) (s:=⟨len us,fl,Ji us⟩) ⟨hp.r1,hp.r4⟩ ⟨hp.c1,hp.c4⟩ (jD hg ht) hx (fun j hj=>by rw[hx];exact(hp.row t ht).2.2 j hj) (r*c) 0 L [] 0 (by omega) (by have:r*c≤16:=Nat.mul_le_mul hp.r4 hp.c4;show _ < 1000000;omega) rfl rfl rfl
 exact h
theorem p51 (k:Nat) (args:List Value):Bp (k+1) 51 args=m51 (Bp k) L args:=by kernel_rfl
end Go.BkQ
set_option maxRecDepth 100000
set_option maxHeartbeats 4000000
namespace Go.BkQ
open Go Go.Sp Go.BkVM
theorem jE {row:List Nat} {i k:Nat} {rest:List Nat} (h:row.drop i=k::rest):AL (Ji row) (i*1)=some (I (.ofNat k))∧row.drop (i+1)=rest∧i < row.length:=by
 have hi:i < row.length:=by have:=congrArg List.length h;simp at this;omega
 have hk:row[i]?=some k:=by
  have:=congrArg List.head? h
  rw[List.head?_drop] at this;exact this
 refine⟨?_,by rw[←List.drop_drop,h];rfl,hi⟩
 rw[BZ,Nat.mul_one,show Ji row=row.map fun n=>IV (Int.ofNat n) from Cc _ _,List.getElem?_map,hk];rfl
theorem R4 (n f f0:Nat) {R C K:Int} {ts:List Int} {bs:Sl} (hl:ts.length≤100) (h:Fh R C K ts≠0):Bp (n+7) 43 [.agg ⟨[I R,I C,I K,S f ts]⟩,Sl.v 1 bs]=some (.tuple ⟨[.pointer none,I (Fh R C K ts)]⟩):=by
 rw[p43]
 show oo (Bp (n+6) 55 [.agg ⟨[I R,I C,I K,S f ts]⟩]) none (fun v4098=>(oo (CQ v4098) none fun l4100=>(ll l4100 none fun v4102 l4100=>(ll l4100 none fun v4103 l4100=>(ll l4100 (bb (isS (Pv v4102)) (oo (Pv v4102) none fun p4105=>(oo (Bi .i64 v4103) none fun x4107=>(bb (nt (Bd x4107 (0:Int))) (some (Value.tuple ⟨[(.pointer none),(.int .i64 x4107)]⟩)) (MR (Bp (n+6)) L L (Db.off p4105) (Db.cs p4105) bs (Int.ofNat (Sl.n bs)) (0:Int))))) (bb (WQ v4102) (oo (Bi .i64 v4103) none fun x4106=>(bb (nt (Bd x4106 (0:Int))) (some (Value.tuple ⟨[(.pointer none),(.int .i64 x4106)]⟩)) (Yf (Bp (n+6)) L L bs (Int.ofNat (Sl.n bs)) (0:Int)))) none)) fun _ _=>none)))))=_
 rw[WB n f hl h,Ac]
 show bb (nt (Bd (Fh R C K ts) 0)) (some (Value.tuple ⟨[(.pointer none),(.int .i64 (Fh R C K ts))]⟩)) _=_
 rw[Co,decide_eq_false h];rfl
end Go.BkQ
set_option maxRecDepth 100000
set_option maxHeartbeats 4000000
namespace Go.BkQ
open Go Go.Sp Go.BkVM
noncomputable def eS (r c k:Nat) (s:Sl):Int:=Gq r c k (s.cs.map fun v=>(Bi .i64 v).getD 0)
theorem rD (r c k f:Nat) (x:List Int):eS r c k (sl f x)=Gq r c k x:=by
 unfold eS
 rw[GX,List.map_map]
 have:((fun v=>(Bi .i64 v).getD 0) ∘ I)=id:=funext fun n=>rfl
 rw[this,List.map_id]
theorem WE {r c k:Nat} {x:List Int} (h:Gq r c k x=0):Ou r c k x:=by
 unfold Gq at h
 by_cases h1:x.length=r*c
 ·rw[if_neg (by simpa using h1)] at h
  by_cases h2:∀ z∈x,0≤z∧z < (k:Int)
  ·exact⟨h1,h2⟩
  ·rw[if_neg h2] at h;cases h
 ·rw[if_pos h1] at h;cases h
theorem QN (r c k f:Nat) (us:List Nat):(Value.agg ⟨[I (.ofNat r),I (.ofNat c),I (.ofNat k),S f (us.map Int.ofNat)]⟩)=Jd r c k f us:=by
 unfold S;rw[Wz];rfl
theorem WF {R C K:Int} {ts x:List Int} (h:Eo R C K ts x=0):∃ r c k us,R = .ofNat r∧C = .ofNat c∧K = .ofNat k∧ts=us.map Int.ofNat∧(r,c,us)∈BO∧(k=1∨k=2∨k=3∨k=4)∧Ou r c k x:=by
 unfold Eo at h
 by_cases hp:Fh R C K ts=0
 ·rw[if_pos hp] at h
  obtain⟨r,c,k,us,rfl,rfl,rfl,rfl,hg,hk⟩:=OM hp
  exact⟨r,c,k,us,rfl,rfl,rfl,rfl,hg,hk,WE h⟩
 ·rw[if_neg hp] at h;exact absurd h hp
theorem Xf (n f f0 : Nat) {R C K : Int} {ts : List Int} {xs : List (Nat × List Int)} (hl : ts.length ≤ 100) (hx : ∀ p ∈ xs, p.2.length < 900000) (hn : xs.length < 1000) (hb : IB (xs.map fun p => Eo R C K ts p.2) ≠ 0) (hne : xs ≠ []) :
 Bp (n+7) 43 [.agg ⟨[I R,I C,I K,S f ts]⟩,Sl.v 1 ⟨xs.length,f0,xs.map fun p=>S p.1 p.2⟩]=some (.tuple ⟨[.pointer none,I (IB (xs.map fun p=>Eo R C K ts p.2))]⟩):=by
 by_cases hp:Fh R C K ts=0
 ·have e:(xs.map fun p=>Eo R C K ts p.2)=xs.map fun p=>Gq R.toNat C.toNat K.toNat p.2:=List.map_congr_left fun p _=>by unfold Eo;rw[if_pos hp]
  rw[e] at hb ⊢
  obtain⟨r,c,k,us,rfl,rfl,rfl,rfl,hg,hk⟩:=OM hp
  have hpr:=Cs hg
  have h:=Sn n f0 f (r:=r) (c:=c) (k:=k) (ts:=us) (bs:=xs.map fun p=>sl p.1 p.2) hk hg hpr.r1 hpr.r4 hpr.c1 hpr.c4 (eS r c k) (fun s hs=>by
   obtain⟨p,hp2,rfl⟩:=List.mem_map.1 hs
   exact⟨p.1,p.2,rfl,hx p hp2,rD r c k p.1 p.2⟩) (by rw[List.length_map];exact hn)
  rw[List.length_map,List.map_map,List.map_map] at h
  have e2:(eS r c k ∘ fun p:Nat×List Int=>sl p.1 p.2)=fun p=>Gq r c k p.2:=funext fun p=>rD r c k p.1 p.2
  rw[e2] at h
  rw[QN]
  refine h.trans ?_
  unfold Wx
  rw[if_neg (show IB (List.map (fun p:Nat×List Int=>Gq r c k p.2) xs)≠0 from hb)];rfl
 ·have e : IB (xs.map fun p => Eo R C K ts p.2) = Fh R C K ts := by
   match xs,hne with
   | p :: xs, _ =>
    show (if Eo R C K ts p.2=0 then _ else Eo R C K ts p.2)=_
    have:Eo R C K ts p.2=Fh R C K ts:=by unfold Eo;rw[if_neg hp]
    rw[this,if_neg hp]
  rw[e]
  exact R4 n f f0 hl hp
theorem AhO (g:Nat) (x:List Int):(Sl.v 1 (Sl.mk 1 0 (Aq (1*1) (Am 0 ([(Sl.v 1 (sl g x))]:List Value)))))=Sl.v 1 ⟨[(g,x)].length,0,[(g,x)].map fun p:Nat×List Int=>S p.1 p.2⟩:=rfl
theorem SA (e:Int):IB [e]=e:=by
 show (if e=0 then 0 else e)=e
 by_cases h:e=0
 ·rw[if_pos h,h]
 ·rw[if_neg h]
theorem O3 (n f g:Nat) {R C K:Int} {ts x:List Int} (hl:ts.length≤100) (hx:x.length < 900000) (h:Eo R C K ts x≠0) :
 Bp (n+7) 43 [.agg ⟨[I R,I C,I K,Sl.v 1 (sl f ts)]⟩,(Sl.v 1 (Sl.mk 1 0 (Aq (1*1) (Am 0 ([(Sl.v 1 (sl g x))]:List Value)))))]=some (.tuple ⟨[.pointer none,I (Eo R C K ts x)]⟩):=by
 rw[AhO]
 have:=Xf n f 0 (xs:=[(g,x)]) hl (fun p hp=>by obtain rfl:=List.mem_singleton.1 hp;exact hx) (by simp) (R:=R) (C:=C) (K:=K) (by show IB [Eo R C K ts x]≠0;rw[SA];exact h) (by simp)
 refine this.trans ?_
 show some (Value.tuple ⟨[.pointer none,I (IB [Eo R C K ts x])]⟩)=_
 rw[SA]
theorem Ow (n f g:Nat) {r c k:Nat} {us:List Nat} {x:List Int} (hg:(r,c,us)∈BO) (hk:k=1∨k=2∨k=3∨k=4) (hx:Ou r c k x) :
 Bp (n+7) 43 [Jd r c k f us,(Sl.v 1 (Sl.mk 1 0 (Aq (1*1) (Am 0 ([(Sl.v 1 (sl g x))]:List Value)))))]=some (.tuple ⟨[bK r c k f us,I 0]⟩):=by
 have hpr:=Cs hg
 have hrc:r*c≤16:=Nat.mul_le_mul hpr.r4 hpr.c4
 have h:=Sn n 0 f (bs:=[sl g x]) hk hg hpr.r1 hpr.r4 hpr.c1 hpr.c4 (fun _=>0) (fun s hs=>by
  obtain rfl:=List.mem_singleton.1 hs
  exact⟨g,x,rfl,by rw[hx.1];omega,hx.valid.symm⟩) (by simp)
 exact h
end Go.BkQ
set_option maxRecDepth 100000
set_option maxHeartbeats 4000000
namespace Go.BkQ
open Go Go.Sp Go.BkVM
def KJ:List Int→List Int→Bool
 | x::r,y::s=>if x=y then KJ r s else decide (x < y)
 | _,_=>false
theorem Zw:∀ a,KJ a a=false
 | []=>rfl
 | x::r=>by simp[KJ,Zw r]
theorem SB:∀ {a b c:List Int},KJ a b=true→KJ b c=true→KJ a c=true
 | [],_,_,h,_=>by simp[KJ] at h
 | _::_,[],_,h,_=>by simp[KJ] at h
 | _::_,_::_,[],_,h=>by simp[KJ] at h
 | x :: a, y :: b, z :: c, h1, h2 => by
  unfold KJ at h1 h2 ⊢
  by_cases e1:x=y
  ·subst e1
   by_cases e2:x=z
   ·subst e2
    simp only[if_true] at *
    exact SB h1 h2
   ·rw[if_neg e2] at h2 ⊢
    exact h2
  ·rw[if_neg e1] at h1
   by_cases e2:y=z
   ·subst e2
    rw[if_neg e1];exact h1
   ·rw[if_neg e2] at h2
    have h1:=of_decide_eq_true h1
    have h2:=of_decide_eq_true h2
    rw[if_neg (by omega)]
    exact decide_eq_true (by omega)
theorem Zx:∀ {a b:List Int},a.length=b.length→a≠b→KJ a b=false→KJ b a=true
 | [],[],_,h,_=>absurd rfl h
 | [],_::_,h,_,_=>by simp at h
 | _::_,[],h,_,_=>by simp at h
 | x :: a, y :: b, hl, hn, h => by
  unfold KJ at h ⊢
  by_cases e:x=y
  ·subst e
   simp only[if_true] at *
   exact Zx (by simpa using hl) (fun e=>hn (by rw[e])) h
  ·rw[if_neg e] at h
   have h:=of_decide_eq_false h
   rw[if_neg (Ne.symm e)]
   exact decide_eq_true (by omega)
theorem Hw {n i:Nat} (h:i < n):AY (Int.ofNat i) (Int.ofNat n)=true:=by rw[BI];exact decide_eq_true h
theorem Jg {n i:Nat} (h:¬ i < n):AY (Int.ofNat i) (Int.ofNat n)=false:=by rw[BI];exact decide_eq_false h
theorem FM {n i:Nat} (h:i < n):an (Nat.blt i n) true=true:=by rw[CF,blt_eq,decide_eq_true h];rfl
def UU (x y:Int):Int:=if x < y then -1 else if y < x then 1 else 0
theorem p90 (k:Nat) (args:List Value):Bp (k+1) 90 args=m90 (Bp k) L args:=by kernel_rfl
theorem AaO (k:Nat) (args:List Value):Bp (k+1) 101 args=gG (Bp k) L args:=by kernel_rfl
theorem Aby (n:Nat) (x:Int):Bp (n+1) 101 [I x]=some (.bool false):=by
 rw[AaO]
 show some (Value.bool (nt (Bd x x)))=_
 rw[Co,decide_eq_true rfl];rfl
theorem nD (n:Nat) (x y:Int):Bp (n+2) 90 [I x,I y]=some (I (UU x y)):=by
 rw[p90]
 unfold m90 Aa6 UU
 simp only[Dj,EG,BP,Ac,Aby,BU,AA,DL]
 by_cases h1:x < y
 ·simp[h1]
 ·by_cases h2:y < x <;> simp[h1,h2]
def cmpL (a b:List Int):Int:=if KJ a b then -1 else if KJ b a then 1 else 0
theorem nG (a b:List Int):AY (cmpL a b) 0=KJ a b:=by
 rw[DL]
 unfold cmpL
 cases KJ a b <;> cases KJ b a <;> rfl
theorem nH {x y:Int} (h:x≠y) (a b:List Int):UU x y=cmpL (x::a) (y::b)∧UU x y≠0:=by
 unfold UU cmpL KJ
 rw[if_neg h,if_neg (Ne.symm h)]
 by_cases h1:x < y
 ·rw[if_pos h1,if_pos (decide_eq_true h1)];exact⟨rfl,by decide⟩
 ·rw[if_neg h1,if_pos (show y < x by omega),if_neg (by simpa using h1),if_pos (by simp;omega)];exact⟨rfl,by decide⟩
theorem bW (x:Int) (a b:List Int):cmpL (x::a) (x::b)=cmpL a b:=by
 unfold cmpL
 simp only[KJ,if_true]
theorem p70 (k:Nat) (args:List Value):Bp (k+1) 70 args=m70 (Bp k) L args:=by kernel_rfl
theorem WG (n M:Nat) {a b:List Int} (hab:a.length=b.length) (ha:a.length < 900000) (f1 f2:Nat):∀ (d w i:Nat),i+d=a.length→d < w →
 Sb (Bp (n+2)) M w (sl f1 a) (sl f2 b) (sl f1 a) (.ofNat a.length) (.ofNat i)=some (I (cmpL (a.drop i) (b.drop i)))
 | _,0,_,_,h=>by omega
 | 0, w + 1, i, hd, _ => by
  show Qu (Bp (n+2)) M (Sb (Bp (n+2)) M w) (sl f1 a) (sl f2 b) (sl f1 a) (.ofNat a.length) (.ofNat i)=_
  unfold Qu Wn
  simp only[I4,Jg (show ¬ i < a.length from by omega),Jg (show ¬ a.length < b.length from by omega),AA,List.drop_eq_nil_of_le (show a.length≤i by omega),List.drop_eq_nil_of_le (show b.length≤i by omega)]
  rfl
 | d + 1, w + 1, i, hd, hw => by
  have h1:i < a.length:=by omega
  have h2:i < b.length:=by omega
  show Qu (Bp (n+2)) M (Sb (Bp (n+2)) M w) (sl f1 a) (sl f2 b) (sl f1 a) (.ofNat a.length) (.ofNat i)=_
  unfold Qu
  simp only[I4,GX,Hw h1,Hw h2,Ak,Cx,Ac,FM h1,FM h2,LX h1,LX h2,BP,Co,DC i (by omega),WG n M hab ha f1 f2 d w (i+1) (by omega) (by omega),List.drop_eq_getElem_cons h1,List.drop_eq_getElem_cons h2,nD,show nt true=false from rfl,AA]
  by_cases h:a[i]=b[i]
  ·rw[h,bW,show UU b[i] b[i]=0 from by unfold UU;rw[if_neg (by omega),if_neg (by omega)]];rfl
  ·obtain⟨h3,h4⟩:=nH h (a.drop (i+1)) (b.drop (i+1))
   rw[decide_eq_false h4,h3];rfl
theorem Xg (n f1 f2:Nat) {a b:List Int} (hab:a.length=b.length) (ha:a.length < 900000):Bp (n+3) 70 [S f1 a,S f2 b]=some (I (cmpL a b)):=by
 rw[p70]
 exact WG n L hab ha f1 f2 a.length L 0 (by omega) (by show _ < 1000000;omega)
end Go.BkQ
set_option maxRecDepth 100000
set_option maxHeartbeats 4000000
namespace Go.BkQ
open Go Go.Sp Go.BkVM
noncomputable def RW (l:List (List Int)):List Value:=l.map fun x=>Sl.v 1 (sl 0 x)
theorem Abz (l:List (List Int)):len (RW l)=l.length:=by rw[AV];simp[RW]
def jJ (m:Nat) (l:List (List Int)):Prop:=∀ x∈l,x.length=m
theorem jJ.set {m:Nat} {l:List (List Int)} (h:jJ m l) (i:Nat) {x:List Int} (hx:x.length=m):jJ m (l.set i x):=fun y hy=>by
 rcases List.mem_or_eq_of_mem_set hy with h2 | rfl
 ·exact h y h2
 ·exact hx
theorem jJ.at {m:Nat} {l:List (List Int)} (h:jJ m l) {i:Nat} (hi:i < l.length):(l[i]).length=m:=h _ (List.getElem_mem hi)
end Go.BkQ
set_option maxRecDepth 100000
set_option maxHeartbeats 4000000
namespace Go.BkQ
open Go Go.Sp Go.BkVM
end Go.BkQ
set_option maxRecDepth 100000
set_option maxHeartbeats 4000000
namespace Go.BkQ
open Go Go.Sp Go.BkVM
end Go.BkQ
set_option maxRecDepth 100000
set_option maxHeartbeats 4000000
namespace Go.BkQ
open Go Go.Sp Go.BkVM
theorem Qk {q:List (List Int)} {c:Nat} (hq:q.length≤2000) (hc:c / 2=q.length) (hc2:c % 2=0):GV 1 24 q.length c 1 (RW q)=true:=by
 unfold GV EQ
 rw[Abz,hc,hc2]
 rw[show Nat.ble ((4*(q.length+1)+4096)*24) 281474976710656=true from Nat.ble_eq_true_of_le (by omega),show Nat.ble (q.length+1) q.length=false from by rw[ble_eq];simp,show Nat.ble (0+q.length*1) q.length=true from Nat.ble_eq_true_of_le (by omega),show Nat.beq (0+q.length*1) q.length=true from by simp]
 rfl
end Go.BkQ
set_option maxRecDepth 100000
set_option maxHeartbeats 4000000
namespace Go.BkQ
open Go Go.Sp Go.BkVM
end Go.BkQ
set_option maxRecDepth 100000
set_option maxHeartbeats 4000000
namespace Go.BkQ
open Go Go.Sp Go.BkVM
end Go.BkQ
set_option maxRecDepth 100000
set_option maxHeartbeats 4000000
namespace Go.BkQ
open Go Go.Sp Go.BkVM
theorem jK (off:Nat) (cs:List Value):Pv (Cv off cs)=some ⟨off,cs⟩:=rfl
theorem NA {α:Type} (a:α):isS (some a)=true:=rfl
theorem WH:Pv (.pointer none)=none:=rfl
theorem SC:WQ (.pointer none)=true:=rfl
theorem Nz {α:Type}:isS (none:Option α)=false:=rfl
end Go.BkQ
set_option maxRecDepth 100000
set_option maxHeartbeats 4000000
namespace Go.BkQ
open Go Go.Sp Go.BkVM
theorem Zy {us:List Nat} {i t:Nat} {rest:List Nat} (h:us.drop i=t::rest):us[i]?=some t:=by
 have:=congrArg List.head? h
 rw[List.head?_drop] at this;exact this
end Go.BkQ
set_option maxRecDepth 100000
set_option maxHeartbeats 4000000
namespace Go.BkQ
open Go Go.Sp Go.BkVM
end Go.BkQ
set_option maxRecDepth 100000
set_option maxHeartbeats 4000000
namespace Go.BkQ
open Go Go.Sp Go.BkVM
end Go.BkQ
namespace Go.BkH
def bX (zs:List Int):List Int:=zs.mergeSort fun x y=>decide (x≤y)
theorem LM (l:List Int):(bX l).Perm l:=List.mergeSort_perm _ _
theorem K7 (l:List Int):(bX l).Pairwise (·≤·):=by
 have:=List.pairwise_mergeSort (le:=fun x y:Int=>decide (x≤y)) (fun a b c h1 h2=>by simp at *;omega) (fun a b=>by simp;omega) l
 exact this.imp fun h=>by simpa using h
theorem Ox {a b:List Int} (h:a.Perm b):bX a=bX b:=
 List.Perm.eq_of_pairwise (fun _ _ _ _ h1 h2=>Int.le_antisymm h1 h2) (K7 a) (K7 b) ((LM a).trans (h.trans (LM b).symm))
theorem nI {a:List Int} (h:a.Pairwise (· < ·)):bX a=a:=
 List.Perm.eq_of_pairwise (fun _ _ _ _ h1 h2=>Int.le_antisymm h1 h2) (K7 a) (h.imp fun h=>Int.le_of_lt h) (LM a)
def ints (l:List Nat):List Int:=l.map Int.ofNat
def own (l:List Nat):List Int:=bX (ints l)
theorem Pk (l:List Nat):(own l).length=l.length:=by unfold own;rw[(LM _).length_eq];simp[ints]
def Hy (c:Nat) (l:List Nat):Bool:=l.any fun k=>c.testBit k
theorem Gs {c:Nat} {l:List Nat}:Hy c l=true↔∃ k∈l,c.testBit k=true:=by unfold Hy;simp
theorem SE {c:Nat} {l m:List Nat} (h:l ⊆ m) (hh:Hy c l=true):Hy c m=true:=by
 obtain⟨k,hk,hb⟩:=Gs.1 hh
 exact Gs.2 ⟨k,h hk,hb⟩
def jL (C:List Nat) (l:List Nat):Prop:=∀ c∈C,c=0∨Hy c l=true
def Dr (n c:Nat):List Nat:=(List.range n).filter c.testBit
section
variable (lt:List Int→List Int→Bool) (n:Nat)
def Jh (a b:List Int):Prop:=a.length < b.length∨(a.length=b.length∧lt a b=true)
def upd (st:Option (List Int)) (x:List Int):Option (List Int):=
 match st with
 | none=>some x
 | some b=>if x.length < b.length∨(x.length=b.length∧lt x b=true) then some x else some b
def UL (st:Option (List Int)) (l:List Nat):Prop:=∃ b,st=some b∧l.length=b.length
open Classical in
noncomputable def JP:List Nat→List Nat→Option (List Int)→Option (List Int)
 | [],l,st=>upd lt st (own l)
 | c::C,l,st=>if c=0∨Hy c l=true then JP C l st else if UL st l then st else (Dr n c).foldl (fun st k=>JP C (l++[k]) st) st
def Zz (st:Option (List Int)) (x:List Int):Prop:=∃ b,st=some b∧(b=x∨Jh lt b x)
end
variable {lt:List Int→List Int→Bool} {n:Nat}
structure kQ (lt:List Int→List Int→Bool):Prop where
 irr:∀ a,lt a a=false
 trans:∀ {a b c},lt a b=true→lt b c=true→lt a c=true
 tri:∀ {a b:List Int},a.length=b.length→a≠b→lt a b=false→lt b a=true
theorem Kc (ho:kQ lt) {a b c:List Int} (h1:Jh lt a b) (h2:Jh lt b c):Jh lt a c:=by
 rcases h1 with h1 | ⟨e1,h1⟩ <;> rcases h2 with h2 | ⟨e2,h2⟩
 ·exact .inl (by omega)
 ·exact .inl (by omega)
 ·exact .inl (by omega)
 ·exact .inr ⟨by omega,ho.trans h1 h2⟩
theorem Xh (ho:kQ lt) {a b:List Int} (h:¬ Jh lt a b):b=a∨Jh lt b a:=by
 by_cases e:a=b
 ·exact .inl e.symm
 ·unfold Jh at h
  have h1:¬ a.length < b.length:=fun g=>h (.inl g)
  by_cases hl:a.length=b.length
  ·have : lt a b = false := by
    cases hh:lt a b with
    | false=>rfl
    | true=>exact absurd (.inr ⟨hl,hh⟩) h
   exact .inr (.inr ⟨hl.symm,ho.tri hl e this⟩)
  ·exact .inr (.inl (by omega))
theorem bY (ho:kQ lt) {st:Option (List Int)} {a b:List Int} (h1:Zz lt st a) (h2:a=b∨Jh lt a b):Zz lt st b:=by
 obtain⟨x,hx,h⟩:=h1
 refine⟨x,hx,?_⟩
 rcases h with rfl | h
 ·exact h2
 ·rcases h2 with rfl | h2
  ·exact .inr h
  ·exact .inr (Kc ho h h2)
theorem nJ (ho:kQ lt) (st:Option (List Int)) (x:List Int):Zz lt (upd lt st x) x:=by
 unfold upd
 cases st with
 | none=>exact⟨x,rfl,.inl rfl⟩
 | some b =>
  show Zz lt (if _ then _ else _) x
  by_cases h:x.length < b.length∨(x.length=b.length∧lt x b=true)
  ·rw[if_pos h];exact⟨x,rfl,.inl rfl⟩
  ·rw[if_neg h];exact⟨b,rfl,Xh ho h⟩
theorem AbA (ho:kQ lt) {st:Option (List Int)} {y:List Int} (x:List Int) (h:Zz lt st y):Zz lt (upd lt st x) y:=by
 obtain⟨b,rfl,hb⟩:=h
 unfold upd
 show Zz lt (if _ then _ else _) y
 by_cases h:x.length < b.length∨(x.length=b.length∧lt x b=true)
 ·rw[if_pos h]
  refine⟨x,rfl,.inr ?_⟩
  rcases hb with rfl | hb
  ·exact h
  ·exact Kc ho h hb
 ·rw[if_neg h];exact⟨b,rfl,hb⟩
theorem UM (ho:kQ lt) {y:List Int}:∀ (C l:List Nat) (st:Option (List Int)),Zz lt st y→Zz lt (JP lt n C l st) y
 | [],l,st,h=>AbA ho _ h
 | c :: C, l, st, h => by
  unfold JP
  by_cases h1:c=0∨Hy c l=true
  ·rw[if_pos h1];exact UM ho C l st h
  ·rw[if_neg h1]
   by_cases h2:UL st l
   ·rw[if_pos h2];exact h
   ·rw[if_neg h2]
    have:∀ (B:List Nat) (st:Option (List Int)),Zz lt st y→Zz lt (B.foldl (fun st k=>JP lt n C (l++[k]) st) st) y:=by
     intro B
     induction B with
     | nil=>exact fun st h=>h
     | cons k B ih=>exact fun st h=>ih _ (UM ho C (l++[k]) st h)
    exact this _ st h
theorem Fb {H:List Nat} (h:H.Pairwise (· < ·)):H.Nodup:=h.imp fun h e=>by omega
theorem QO {l H:List Nat} (hl:l.Nodup) (hH:H.Nodup) (hs:l ⊆ H):(H.filter fun a=>decide (a∈l)).Perm l:=(List.perm_ext_iff_of_nodup (hH.filter _) hl).2 fun a=>by
 rw[List.mem_filter,decide_eq_true_iff]
 exact⟨fun h=>h.2,fun h=>⟨hs h,h⟩⟩
theorem Pm {l H:List Nat} (hl:l.Nodup) (hH:H.Nodup) (hs:l ⊆ H):l.length≤H.length:=by
 rw[←(QO hl hH hs).length_eq];exact List.length_filter_le _ _
theorem kR {l H:List Nat} (hl:l.Nodup) (hH:H.Nodup) (hs:l ⊆ H) (he:l.length=H.length):l.Perm H:=by
 have h:=QO hl hH hs
 have h2:(H.filter fun a=>decide (a∈l)).length=H.length:=by rw[h.length_eq,he]
 rw[List.filter_eq_self.2 (List.length_filter_eq_length_iff.1 h2)] at h
 exact h.symm
theorem kS {H:List Nat} (h:H.Pairwise (· < ·)):own H=ints H:=nI (by
 unfold ints
 rw[List.pairwise_map]
 exact h.imp fun h=>Int.ofNat_lt.2 h)
theorem Oy (ho:kQ lt) {H:List Nat} (hH:H.Pairwise (· < ·)) (hn:∀ k∈H,k < n):∀ (C l:List Nat) (st:Option (List Int)),jL C H→l.Nodup→l ⊆ H→Zz lt (JP lt n C l st) (ints H)
 | [], l, st, _, hl, hs => by
  refine bY ho (nJ ho st (own l)) ?_
  have h1:=Pm hl (Fb hH) hs
  by_cases he:l.length=H.length
  ·left
   have hp:=kR hl (Fb hH) hs he
   rw[←kS hH]
   exact Ox (hp.map Int.ofNat)
  ·exact .inr (.inl (by rw[Pk];simp[ints];omega))
 | c :: C, l, st, hC, hl, hs => by
  have hC':jL C H:=fun d hd=>hC d (by simp[hd])
  unfold JP
  by_cases h1:c=0∨Hy c l=true
  ·rw[if_pos h1];exact Oy ho hH hn C l st hC' hl hs
  ·rw[if_neg h1]
   have hc:=(hC c (by simp)).resolve_left fun e=>h1 (.inl e)
   obtain⟨k,hk,hb⟩:=Gs.1 hc
   have hkl:k ∉ l:=fun h=>h1 (.inr (Gs.2 ⟨k,h,hb⟩))
   have hl':(l++[k]).Nodup:=List.nodup_append.2 ⟨hl,by simp,by intro a ha b hb e;rw[List.mem_singleton.1 hb] at e;rw[e] at ha;exact hkl ha⟩
   have hs':l++[k] ⊆ H:=fun a ha=>by
    rcases List.mem_append.1 ha with ha | ha
    ·exact hs ha
    ·rw[List.mem_singleton.1 ha];exact hk
   by_cases h2:UL st l
   ·rw[if_pos h2]
    obtain⟨b,rfl,hb⟩:=h2
    have:=Pm hl' (Fb hH) hs'
    refine⟨b,rfl,.inr (.inl ?_)⟩
    simp[ints] at *;omega
   ·rw[if_neg h2]
    have hkb:k∈Dr n c:=by unfold Dr;simp[hn k hk,hb]
    obtain⟨A,B,hAB⟩:=List.append_of_mem hkb
    rw[hAB,List.foldl_append,List.foldl_cons]
    have:∀ (B:List Nat) (st:Option (List Int)),Zz lt st (ints H)→Zz lt (B.foldl (fun st k=>JP lt n C (l++[k]) st) st) (ints H):=by
     intro B
     induction B with
     | nil=>exact fun st h=>h
     | cons k B ih=>exact fun st h=>ih _ (UM ho C (l++[k]) st h)
    exact this B _ (Oy ho hH hn C (l++[k]) _ hC' hl' hs')
theorem OO {G:List Int→Prop}:∀ (C l:List Nat) (st:Option (List Int)),l.Nodup→(∀ k∈l,k < n)→(∀ x,st=some x→G x)→(∀ m:List Nat,m.Nodup→(∀ k∈m,k < n)→l ⊆ m→jL C m→G (own m))→∀ x,JP lt n C l st=some x→G x
 | [], l, st, hl, hn, hst, hG, x, hx => by
  have h0:G (own l):=hG l hl hn (fun _ h=>h) (fun _ h=>by cases h)
  unfold JP upd at hx
  cases st with
  | none=>injection hx with hx;rw[←hx];exact h0
  | some b =>
   replace hx:(if _ then _ else _)=some x:=hx
   by_cases h:(own l).length < b.length∨((own l).length=b.length∧lt (own l) b=true)
   ·rw[if_pos h] at hx;injection hx with hx;rw[←hx];exact h0
   ·rw[if_neg h] at hx;exact hst x hx
 | c :: C, l, st, hl, hn, hst, hG, x, hx => by
  unfold JP at hx
  by_cases h1:c=0∨Hy c l=true
  ·rw[if_pos h1] at hx
   exact OO C l st hl hn hst (fun m h2 h3 h4 h5=>hG m h2 h3 h4 fun d hd=>by
    rcases List.mem_cons.1 hd with rfl | hd
    ·exact h1.imp id fun h=>SE h4 h
    ·exact h5 d hd) x hx
  ·rw[if_neg h1] at hx
   by_cases h2:UL st l
   ·rw[if_pos h2] at hx;exact hst x hx
   ·rw[if_neg h2] at hx
    have key:∀ (B:List Nat),(∀ k∈B,k∈Dr n c)→∀ st:Option (List Int),(∀ x,st=some x→G x)→∀ x,B.foldl (fun st k=>JP lt n C (l++[k]) st) st=some x→G x:=by
     intro B
     induction B with
     | nil=>exact fun _ st h=>h
     | cons k B ih =>
      intro hB st h
      have hk:=hB k (by simp)
      unfold Dr at hk
      obtain⟨hk1,hk2⟩:=List.mem_filter.1 hk
      have hkn:=List.mem_range.1 hk1
      have hkl:k ∉ l:=fun g=>h1 (.inr (Gs.2 ⟨k,g,hk2⟩))
      refine ih (fun a ha=>hB a (by simp[ha])) _ ?_
      refine OO C (l++[k]) st (List.nodup_append.2 ⟨hl,by simp,by intro a ha b hb e;rw[List.mem_singleton.1 hb] at e;rw[e] at ha;exact hkl ha⟩) (fun a ha=>?_) h fun m g1 g2 g3 g4=>?_
      ·rcases List.mem_append.1 ha with ha | ha
       ·exact hn a ha
       ·rw[List.mem_singleton.1 ha];exact hkn
      ·refine hG m g1 g2 (fun a ha=>g3 (by simp[ha])) fun d hd=>?_
       rcases List.mem_cons.1 hd with rfl | hd
       ·exact .inr (Gs.2 ⟨k,g3 (by simp),hk2⟩)
       ·exact g4 d hd
    exact key _ (fun k h=>h) st hst x hx
structure WI (lt:List Int→List Int→Bool) (n:Nat) (C:List Nat) (H:List Nat):Prop where
 asc:H.Pairwise (· < ·)
 rng:∀ k∈H,k < n
 hit:jL C H
 least:∀ K:List Nat,K.Pairwise (· < ·)→(∀ k∈K,k < n)→jL C K→H=K∨Jh lt (ints H) (ints K)
theorem kT {a b:List Nat} (h:ints a=ints b):a=b:=by
 unfold ints at h
 have:(a.map Int.ofNat).map Int.toNat=(b.map Int.ofNat).map Int.toNat:=by rw[h]
 simpa [Function.comp_def] using this
theorem WI.uniq (ho:kQ lt) {C H K:List Nat} (h1:WI lt n C H) (h2:WI lt n C K):H=K:=by
 rcases h1.least K h2.asc h2.rng h2.hit with h | h
 ·exact h
 ·rcases h2.least H h1.asc h1.rng h1.hit with g | g
  ·exact g.symm
  ·exfalso
   have:=Kc ho h g
   unfold Jh at this
   rw[ho.irr] at this
   rcases this with h | ⟨_,h⟩
   ·omega
   ·cases h
theorem AbB {m:List Nat} (hm:m.Nodup) (hn:∀ k∈m,k < n):∃ H:List Nat,H.Pairwise (· < ·)∧H.Perm m∧(∀ k∈H,k < n)∧own m=ints H:=by
 have h0:((List.range n).filter fun k=>m.contains k).Pairwise (· < ·):=List.pairwise_lt_range.filter _
 have hp:((List.range n).filter fun k=>m.contains k).Perm m:=(List.perm_ext_iff_of_nodup (Fb h0) hm).2 fun a=>by
  rw[List.mem_filter,List.mem_range]
  constructor
  ·rintro⟨_,h⟩;simpa using h
  ·exact fun h=>⟨hn a h,by simpa using h⟩
 refine⟨_,h0,hp,fun k hk=>hn k (hp.mem_iff.1 hk),?_⟩
 rw[←kS h0]
 exact Ox (hp.map Int.ofNat).symm
theorem bZ (ho:kQ lt) {C:List Nat} (hC:∀ c∈C,c < 2 ^ n):∃ H,JP lt n C [] none=some (ints H)∧WI lt n C H:=by
 have hall:jL C (List.range n):=fun c hc=>by
  by_cases h:c=0
  ·exact .inl h
  ·right
   obtain⟨k,hk⟩:=Nat.exists_testBit_of_ne_zero h
   refine Gs.2 ⟨k,List.mem_range.2 ?_,hk⟩
   apply Classical.byContradiction
   intro hkn
   have:=Nat.testBit_lt_two_pow (x:=c) (i:=k) (Nat.lt_of_lt_of_le (hC c hc) (Nat.pow_le_pow_right (by omega) (by omega)))
   rw[this] at hk;cases hk
 obtain⟨b,hb,_⟩:=Oy ho (H:=List.range n) List.pairwise_lt_range (fun k h=>List.mem_range.1 h) C [] none hall (by simp) (by simp)
 obtain⟨m,h1,h2,h3,rfl⟩:=OO (lt:=lt) (n:=n) (G:=fun x=>∃ m:List Nat,m.Nodup∧(∀ k∈m,k < n)∧jL C m∧x=own m) C [] none (by simp) (by simp) (by simp) (fun m g1 g2 _ g4=>⟨m,g1,g2,g4,rfl⟩) b hb
 obtain⟨H,a1,a2,a3,a4⟩:=AbB h1 h2
 rw[a4] at hb
 refine⟨H,hb,a1,a3,fun c hc=>(h3 c hc).imp id fun h=>SE a2.symm.subset h,fun K k1 k2 k3=>?_⟩
 obtain⟨x,hx,h⟩:=Oy ho k1 k2 C [] none k3 (by simp) (by simp)
 rw[hb] at hx
 injection hx with hx
 subst hx
 exact h.imp kT id
end Go.BkH
namespace Go.BkH
theorem UN (m k j:Nat):(2 ^ (k+1)*m+2 ^ k).testBit j=if j < k+1 then decide (j=k) else m.testBit (j - (k+1)):=by
 have h:2 ^ k < 2 ^ (k+1):=Nat.pow_lt_pow_right (by omega) (by omega)
 rw[Nat.testBit_two_pow_mul_add _ h,Nat.testBit_two_pow]
 by_cases hj:j < k+1
 ·rw[if_pos hj,if_pos hj]
  by_cases e:j=k
  ·simp[e]
  ·simp[e];omega
 ·rw[if_neg hj,if_neg hj]
theorem WJ (m k j:Nat):(2 ^ (k+1)*m+2 ^ k - 1).testBit j=if j < k+1 then decide (j < k) else m.testBit (j - (k+1)):=by
 have h0:1≤2 ^ k:=Nat.one_le_two_pow
 have h:2 ^ k - 1 < 2 ^ (k+1):=Nat.lt_of_le_of_lt (Nat.sub_le _ _) (Nat.pow_lt_pow_right (by omega) (by omega))
 rw[show 2 ^ (k+1)*m+2 ^ k - 1=2 ^ (k+1)*m+(2 ^ k - 1) from by omega,Nat.testBit_two_pow_mul_add _ h,Nat.testBit_two_pow_sub_one]
theorem kU {c:Nat} (h:c≠0):∃ m k,c=2 ^ (k+1)*m+2 ^ k:=by
 induction c using Nat.strongRecOn with
 | _ c ih =>
  by_cases he:c % 2=0
  ·obtain⟨m,k,e⟩:=ih (c / 2) (by omega) (by omega)
   refine⟨m,k+1,?_⟩
   have:c=2*(c / 2):=by omega
   rw[this,e,Nat.pow_succ 2 (k+1),Nat.pow_succ 2 k]
   rw[Nat.mul_add]
   have e1:2*(2 ^ k*2*m)=2 ^ k*2*2*m:=by rw[Nat.mul_comm (2 ^ k*2) 2,Nat.mul_assoc 2,]
   omega
  ·exact⟨c / 2,0,by simp;omega⟩
end Go.BkH
set_option maxRecDepth 100000
set_option maxHeartbeats 4000000
namespace Go.BkQ
open Go Go.Sp Go.BkVM Go.BkH
def XJ (x:List Int):Nat→Nat→List Nat→Nat
 | _,z,[]=>z
 | i,z,k::r=>XJ x (i+1) (if x.getD k 0=x.getD i 0 then z else z ||| 2 ^ i) r
def LU (x:List Int) (row:List Nat):Nat:=XJ x 0 0 row
theorem WK (x:List Int):∀ (r:List Nat) (i z b:Nat),(XJ x i z r).testBit b=(z.testBit b || (decide (i≤b) && decide (b < i+r.length) && decide (x.getD (r.getD (b - i) 0) 0≠x.getD b 0)))
 | [], i, z, b => by
  unfold XJ
  by_cases h:i≤b
  ·rw[decide_eq_true h,decide_eq_false (show ¬ b < i+([]:List Nat).length from by simp;omega)];simp
  ·rw[decide_eq_false h];simp
 | k :: r, i, z, b => by
  unfold XJ
  rw[WK x r (i+1)]
  by_cases e:b=i
  ·subst e
   rw[decide_eq_false (show ¬ b+1≤b from by omega),decide_eq_true (Nat.le_refl b),decide_eq_true (show b < b+(k::r).length from by simp),Nat.sub_self]
   by_cases h:x.getD k 0=x.getD b 0
   ·rw[if_pos h];simp at h ⊢;simp[h]
   ·rw[if_neg h,Nat.testBit_or,Nat.testBit_two_pow];simp at h ⊢;simp[h]
  ·have h1 : (if x.getD k 0 = x.getD i 0 then z else z ||| 2 ^ i).testBit b = z.testBit b := by
    split
    ·rfl
    ·rw[Nat.testBit_or,Nat.testBit_two_pow,decide_eq_false (fun h=>e h.symm),Bool.or_false]
   rw[h1]
   congr 1
   by_cases h:i≤b
   ·rw[decide_eq_true h,decide_eq_true (show i+1≤b from by omega),show b - i=(b - (i+1))+1 from by omega,List.getD_cons_succ]
    congr 2
    exact decide_eq_decide.2 (by simp;omega)
   ·rw[decide_eq_false h,decide_eq_false (show ¬ i+1≤b from by omega)];rfl
theorem Pn (x:List Int) (row:List Nat) (b:Nat):(LU x row).testBit b=(decide (b < row.length) && decide (x.getD (row.getD b 0) 0≠x.getD b 0)):=by
 unfold LU
 rw[WK];simp
theorem UO (x:List Int) (row:List Nat):LU x row < 2 ^ row.length:=by
 refine Nat.lt_pow_two_of_testBit _ fun i hi=>?_
 rw[Pn,decide_eq_false (by omega)];rfl
theorem AhP {k:Nat} (hk:k < 16):QW .u16 (1:Int) k = .ofNat (2 ^ k):=by
 have:k=0∨k=1∨k=2∨k=3∨k=4∨k=5∨k=6∨k=7∨k=8∨k=9∨k=10∨k=11∨k=12∨k=13∨k=14∨k=15:=by omega
 rcases this with rfl | rfl | rfl | rfl | rfl | rfl | rfl | rfl | rfl | rfl | rfl | rfl | rfl | rfl | rfl | rfl <;> rfl
theorem kV {k:Nat} (hk:k < 16):2 ^ k < 65536:=by
 have:2 ^ k < 2 ^ 16:=Nat.pow_lt_pow_right (by omega) hk
 simpa using this
theorem kW {a b:Nat} (ha:a < 65536) (hb:b < 65536):Nl .u16 a b=true:=by unfold Nl;simp[GA];omega
theorem AhQ {z k:Nat} (hk:k < 16) (hz:z < 65536):jF .u16 (.ofNat z) (QW .u16 (1:Int) k) = .ofNat (z ||| 2 ^ k):=by
 rw[AhP hk]
 show bb (Nl .u16 z (2 ^ k)) (Int.ofNat (Nat.lor z (2 ^ k))) (YD .u16 (.ofNat z) (.ofNat (2 ^ k))) = .ofNat (z ||| 2 ^ k)
 rw[kW hz (kV hk)];rfl
theorem ZA {a b:Nat} (ha:a < 65536) (hb:b < 65536):Np .u16 (.ofNat a) (.ofNat b) = .ofNat (a &&& b):=by
 show bb (Nl .u16 a b) (Int.ofNat (Nat.land a b)) (PR .u16 (.ofNat a) (.ofNat b)) = .ofNat (a &&& b)
 rw[kW ha hb];rfl
theorem LZ (pu:Af) (M f:Nat) {row:List Nat} {x:List Int} (hx:row.length=x.length) (hx16:x.length≤16) (hr:∀ k∈row,k < x.length):∀ (rest:List Nat) (w i z:Nat),row.drop i=rest→rest.length < w→z < 65536 →
 Qs pu M w (sl f x) (.ofNat z) ⟨len row,0,Ji row⟩ (.ofNat (len row)) (.ofNat i)=some (.int .u16 (.ofNat (XJ x i z rest)))
 | _,0,_,_,_,h,_=>by omega
 | [], w + 1, i, z, hd, _, _ => by
  have h1:row.length≤i:=List.drop_eq_nil_iff.1 hd
  show bb (AY (.ofNat i) (.ofNat (len row))) _ (some (Value.int .u16 (.ofNat z)))=_
  rw[BI,AV,decide_eq_false (by omega),AA];rfl
 | k :: rest, w + 1, i, z, hd, hw, hz => by
  obtain⟨hget,hd2,hi⟩:=jE hd
  have hrl:(k::rest).length=rest.length+1:=rfl
  have hk:=hr k (List.mem_of_mem_drop (i:=i) (by rw[hd];exact List.mem_cons_self))
  have hi3:i < x.length:=by omega
  have e1:x.getD k 0=x[k]:=by simp[List.getD_eq_getElem?_getD,hk]
  have e2:x.getD i 0=x[i]:=by simp[List.getD_eq_getElem?_getD,hi3]
  have ih:=fun z hz=>LZ pu M f hx hx16 hr rest w (i+1) z hd2 (by omega) hz
  show V9 pu M (Qs pu M w) (sl f x) (.ofNat z) ⟨len row,0,Ji row⟩ (.ofNat (len row)) (.ofNat i)=_
  unfold V9 V8 XJ
  simp only[Hw (show i < len row from by rw[AV];exact hi),Ak,Cx,Ac,FM (show i < len row from by rw[AV];exact hi),hget,BP,I4,GX,FM hk,FM hi3,LX hk,LX hi3,Co,DC i (by omega),AhQ (show i < 16 from by omega) hz,e1,e2]
  by_cases h:x[k]=x[i]
  ·rw[decide_eq_true h,show nt true=false from rfl,AA,if_pos h];exact ih z hz
  ·rw[decide_eq_false h,show nt false=true from rfl,Ak,if_neg h]
   exact ih _ (Nat.or_lt_two_pow (n:=16) hz (kV (by omega)))
theorem O4 (n f fl:Nat) {r c k t i:Nat} {us:List Nat} {x:List Int} (hg:(r,c,us)∈BO) (hi:us[i]?=some t) (hx:x.length=r*c) :
 Bp (n+1) 51 [bK r c k fl us,S f x,I (.ofNat i)]=some (.int .u16 (.ofNat (LU x (cellL r c t)))):=by
 have hp:=Cs hg
 have ht:=List.mem_of_getElem? hi
 obtain⟨_,h1,h2⟩:=hp.row t ht
 have hrc:r*c≤16:=Nat.mul_le_mul hp.r4 hp.c4
 have g1:=LZ (Bp n) L f (row:=cellL r c t) (x:=x) (by omega) (by omega) (fun j hj=>by rw[hx];exact h2 j hj) _ L 0 0 rfl (by rw[List.drop_zero,h1];show _ < 1000000;omega) (by omega)
 rw[List.drop_zero] at g1
 rw[p51]
 have hii:i < us.length:=(List.getElem?_eq_some_iff.1 hi).1
 have hn:AL (Yy r c us) (i*1)=some (Kb (cellL r c t)):=by
  rw[BZ,Nat.mul_one,show Yy r c us=us.map fun t=>Kb (cellL r c t) from Cc _ _,List.getElem?_map,hi];rfl
 show bb (an (Nat.blt i (len us)) true) (oo (AL (Yy r c us) (i*1)) none fun v5490=>(oo (Bj 1 v5490) none fun s5492=>(Qs (Bp n) L L (sl f x) (0:Int) s5492 (Int.ofNat (Sl.n s5492)) (0:Int)))) none=_
 rw[show Nat.blt i (len us)=true from by rw[blt_eq,AV];simpa using hii,show an true true=true from rfl,Ak,hn,Ac]
 exact g1
theorem AhR {c:Nat} (h0:c≠0) (hc:c < 65536):Aj .u16 (Int.sub (.ofNat 0) (.ofNat c)) = .ofNat (65536 - c):=by
 rw[IM,IntKind.wrap_u16]
 show ((0:Int) - (c:Int)) % 65536=((65536 - c:Nat):Int)
 omega
theorem AhS {c:Nat} (h0:c≠0) (hc:c < 65536):Aj .u16 (Int.sub (.ofNat c) 1) = .ofNat (c - 1):=by
 rw[IM,IntKind.wrap_u16]
 show ((c:Int) - 1) % 65536=((c - 1:Nat):Int)
 omega
theorem and_neg {m k:Nat} (hc:2 ^ (k+1)*m+2 ^ k < 65536):(2 ^ (k+1)*m+2 ^ k) &&& (65536 - (2 ^ (k+1)*m+2 ^ k))=2 ^ k:=by
 have h0:1≤2 ^ k:=Nat.one_le_two_pow
 apply Nat.eq_of_testBit_eq
 intro j
 have e:65536 - (2 ^ (k+1)*m+2 ^ k)=2 ^ 16 - ((2 ^ (k+1)*m+2 ^ k - 1)+1):=by omega
 rw[Nat.testBit_and,e,Nat.testBit_two_pow_sub_succ (by omega),WJ,UN,Nat.testBit_two_pow]
 by_cases hj:j < k+1
 ·rw[if_pos hj,if_pos hj]
  have hk16:k < 16:=(Nat.pow_lt_pow_iff_right (a:=2) (by omega)).1 (by omega:2 ^ k < 2 ^ 16)
  by_cases ek:j=k
  ·subst ek;simp[hk16]
  ·simp[ek,show ¬ k=j from fun h=>ek h.symm]
 ·rw[if_neg hj,if_neg hj,decide_eq_false (by omega:¬ k=j)]
  cases m.testBit (j - (k+1)) <;> simp
theorem nK (m k:Nat):(2 ^ (k+1)*m+2 ^ k) &&& (2 ^ (k+1)*m+2 ^ k - 1)=2 ^ (k+1)*m:=by
 apply Nat.eq_of_testBit_eq
 intro j
 rw[Nat.testBit_and,WJ,UN,Nat.testBit_two_pow_mul]
 by_cases hj:j < k+1
 ·rw[if_pos hj,if_pos hj,decide_eq_false (by omega:¬ j ≥ k+1)]
  by_cases ek:j=k
  ·subst ek;simp
  ·rw[decide_eq_false ek];rfl
 ·rw[if_neg hj,if_neg hj,decide_eq_true (by omega:j ≥ k+1)]
  cases m.testBit (j - (k+1)) <;> rfl
theorem kX {n m k:Nat} (hk:k < n):Dr n (2 ^ (k+1)*m+2 ^ k)=k::Dr n (2 ^ (k+1)*m):=by
 have h1:(Dr n (2 ^ (k+1)*m+2 ^ k)).Pairwise (· < ·):=List.pairwise_lt_range.filter _
 have h2:(Dr n (2 ^ (k+1)*m)).Pairwise (· < ·):=List.pairwise_lt_range.filter _
 have hb:∀ j,(2 ^ (k+1)*m).testBit j=true→k+1≤j:=fun j h=>by
  rw[Nat.testBit_two_pow_mul] at h
  by_cases hj:k+1≤j
  ·exact hj
  ·rw[decide_eq_false (by omega:¬ j ≥ k+1)] at h;cases h
 have h3:(k::Dr n (2 ^ (k+1)*m)).Pairwise (· < ·):=List.pairwise_cons.2 ⟨fun j hj=>by
  unfold Dr at hj
  have:=hb j (List.mem_filter.1 hj).2
  omega,h2⟩
 refine List.Perm.eq_of_pairwise (le:=(· < ·)) (fun a b _ _ h1 h2=>absurd h1 (by omega)) h1 h3 ((List.perm_ext_iff_of_nodup (Fb h1) (Fb h3)).2 fun j=>?_)
 unfold Dr
 rw[List.mem_cons,List.mem_filter,List.mem_filter,List.mem_range,UN,Nat.testBit_two_pow_mul]
 by_cases hj:j < k+1
 ·rw[if_pos hj,decide_eq_false (by omega:¬ j ≥ k+1)]
  simp
  intro h;omega
 ·rw[if_neg hj,decide_eq_true (by omega:j ≥ k+1)]
  simp
  intro h;omega
theorem Ajp (k:Nat) (args:List Value):Bp (k+1) 72 args=m72 (Bp k) L args:=by kernel_rfl
noncomputable def tz (e:Nat):Option Value:=(oo (EA (G6 .u32 (Aj .u32 (Int.mul (Aj .u32 (.ofNat e)) (125613361:Int))) 27)) none fun k10163=>(bb (Nat.blt k10163 32) (oo (AL RQ (0+k10163*1)) none fun v10166=>(oo (Bi .u8 v10166) none fun x10168=>(some (Value.int .i64 (Aj .i64 x10168))))) none))
noncomputable def tzB (k:Nat):Bool:=oo (tz (Nat.pow 2 k)) false fun v=>oo (Bi .i64 v) false fun x=>Bd x (.ofNat k)
theorem XK:Au tzB (upN 16)=true:=by kernel_rfl
theorem AbC {k:Nat} (hk:k < 16):tz (2 ^ k)=some (I (.ofNat k)):=by
 have h:=XK
 rw[Bh,List.all_eq_true] at h
 have h:=h k (by rw[UK];exact List.mem_range.2 hk)
 have h:oo (tz (2 ^ k)) false (fun v=>oo (Bi .i64 v) false fun x=>Bd x (.ofNat k))=true:=h
 cases e:tz (2 ^ k) with
 | none=>rw[e] at h;cases h
 | some v =>
  rw[e,Ac] at h
  cases e2:Bi .i64 v with
  | none=>rw[e2] at h;cases h
  | some x =>
   rw[e2,Ac,Co] at h
   rw[Eh e2,of_decide_eq_true h]
theorem kY (n:Nat) {m k:Nat} (hc:2 ^ (k+1)*m+2 ^ k < 65536):Bp (n+1) 72 [.int .u16 (.ofNat (2 ^ (k+1)*m+2 ^ k))]=some (I (.ofNat k)):=by
 have h0:1≤2 ^ k:=Nat.one_le_two_pow
 have hk16:k < 16:=(Nat.pow_lt_pow_iff_right (a:=2) (by omega)).1 (by omega:2 ^ k < 2 ^ 16)
 have ha:=and_neg hc
 rw[Ajp]
 show mE (Bp n) L (.ofNat (2 ^ (k+1)*m+2 ^ k))=_
 generalize 2 ^ (k+1)*m+2 ^ k=c at *
 unfold mE
 have hz:Bd (Int.ofNat c) 0=false:=by
  rw[Co];exact decide_eq_false fun e=>by have:Int.ofNat c=Int.ofNat 0:=e;have:=Int.ofNat.inj this;rw[this] at ha;simp at ha;omega
 have hc0:c≠0:=fun e=>by rw[e] at ha;simp at ha;omega
 rw[hz,AA,AhR hc0 hc,ZA hc (by omega),ha]
 exact AbC hk16
theorem nL {m k:Nat} (hc:2 ^ (k+1)*m+2 ^ k < 65536):Np .u16 (.ofNat (2 ^ (k+1)*m+2 ^ k)) (Aj .u16 (Int.sub (.ofNat (2 ^ (k+1)*m+2 ^ k)) (1:Int))) = .ofNat (2 ^ (k+1)*m):=by
 have h0:1≤2 ^ k:=Nat.one_le_two_pow
 rw[AhS (by omega) hc,ZA hc (by omega),nK]
theorem AhT {c k:Nat} (hc:c < 65536) (hk:k < 16):Bd (Np .u16 (G6 .u16 (.ofNat c) k) (1:Int)) (1:Int)=c.testBit k:=by
 have e1:G6 .u16 (.ofNat c) k = .ofNat (c / 2 ^ k):=by
  show Int.ofNat (Nat.div c (Nat.pow 2 (Nat.min k 16)))=_
  rw[show Nat.min k 16=k from Nat.min_eq_left (by omega)];rfl
 rw[e1,show (1:Int) = .ofNat 1 from rfl,ZA (Nat.lt_of_le_of_lt (Nat.div_le_self _ _) hc) (by omega),DT,Nat.testBit_eq_decide_div_mod_eq,Nat.and_one_is_mod]
 by_cases h:c / 2 ^ k % 2=1
 ·rw[h];rfl
 ·rw[decide_eq_false h]
  have:c / 2 ^ k % 2=0:=by omega
  rw[this];rfl
end Go.BkQ
set_option maxRecDepth 100000
set_option maxHeartbeats 4000000
namespace Go.BkQ
open Go Go.Sp Go.BkVM Go.BkH
def fl0:List Int→Nat
 | []=>2
 | _::_=>0
noncomputable def slN (l:List Int):Sl:=⟨l.length,fl0 l,l.map I⟩
theorem AbD (k:Nat) (args:List Value):Bp (k+1) 10670 args=OC (Bp k) L args:=by kernel_rfl
theorem AbE (k:Nat) (args:List Value):Bp (k+1) 10860 args=OB (Bp k) L args:=by kernel_rfl
theorem AbF (k:Nat) (args:List Value):Bp (k+1) 10660 args=OA (Bp k) L args:=by kernel_rfl
theorem AbG (k:Nat) (args:List Value):Bp (k+1) 10690 args=OD (Bp k) L args:=by kernel_rfl
theorem kZ (k:Nat) (args:List Value):Bp (k+1) 10650 args=MG (Bp k) L args:=by kernel_rfl
theorem q20 (k:Nat) (args:List Value):Bp (k+1) 29 args=m29 (Bp k) L args:=by kernel_rfl
theorem Ajq (k:Nat) (args:List Value):Bp (k+1) 71 args=m71 (Bp k) L args:=by kernel_rfl
theorem AbH (n:Nat) {c k:Nat} (hc:c < 65536) (hk:k < 16):Bp (n+1) 10670 [I (.ofNat k),.pointer (some ⟨1,0,none⟩),.agg ⟨[.int .u16 (.ofNat c)]⟩]=some (.tuple ⟨[.bool (c.testBit k),.agg ⟨[.int .u16 (.ofNat c)]⟩]⟩):=by
 rw[AbD]
 show LK (Bp n) L (.ofNat k) (.ofNat c)=_
 unfold LK
 rw[Cx,Ac,AhT hc hk]
theorem O5 (n M:Nat) {c:Nat} (hc:c < 65536) (l:List Nat) (hl:∀ k∈l,k < 16) (hl2:l.length < 1000):∀ (d w i:Nat),i+d=l.length→d < w →
 ∃ z:Int,Ir (Bp (n+1)) M w (slN (ints l)) (.ofNat l.length) (.ofNat i) (.ofNat c)=some (.tuple ⟨[I z,.agg ⟨[.int .u16 (.ofNat c)]⟩]⟩)∧nt (AY z 0)=Hy c (l.drop i)
 | _,0,_,_,h=>by omega
 | 0, w + 1, i, hd, _ => by
  refine⟨-1,?_,?_⟩
  ·show Iq (Bp (n+1)) M (Ir (Bp (n+1)) M w) (slN (ints l)) (.ofNat l.length) (.ofNat i) (.ofNat c)=_
   unfold Iq
   simp only[Jg (show ¬ i < l.length from by omega),AA]
   rfl
  ·rw[List.drop_eq_nil_of_le (by omega)];rfl
 | d + 1, w + 1, i, hd, hw => by
  have h1:i < l.length:=by omega
  have hn:(slN (ints l)).n=l.length:=by show (ints l).length=_;simp[ints]
  have hg:AL (slN (ints l)).cs (i*1)=some (I (.ofNat l[i])):=by
   show AL ((ints l).map I) (i*1)=_
   rw[BZ,Nat.mul_one];simp[ints,h1]
  have hb:=AbH n hc (hl _ (List.getElem_mem h1))
  have e:Hy c (l.drop i)=(c.testBit l[i] || Hy c (l.drop (i+1))):=by
   rw[List.drop_eq_getElem_cons h1];rfl
  obtain⟨z,ih1,ih2⟩:=O5 n M hc l hl hl2 d w (i+1) (by omega) (by omega)
  show ∃ z:Int,Iq (Bp (n+1)) M (Ir (Bp (n+1)) M w) (slN (ints l)) (.ofNat l.length) (.ofNat i) (.ofNat c)=_∧_
  unfold Iq
  simp only[Hw h1,Ak,Cx,Ac,hn,FM h1,hg,BP,hb,FW,Dj,EG,BU,RL,show ∀ q:Int,Bi .u16 (.int .u16 q)=some q from fun _=>rfl,DC i (by omega),e]
  cases c.testBit l[i] with
  | true=>exact⟨.ofNat i,rfl,rfl⟩
  | false =>
   refine⟨z,?_,by rw[ih2];rfl⟩
   rw[AA];exact ih1
theorem AbP (n:Nat) {c:Nat} (hc:c < 65536) (l:List Nat) (hl:∀ k∈l,k < 16) (hl2:l.length < 1000):Bp (n+3) 10660 [Sl.v 1 (slN (ints l)),.func (.func 67) ⟨[]⟩ ⟨[.pointer (some ⟨1,0,none⟩)]⟩,.agg ⟨[.int .u16 (.ofNat c)]⟩]=some (.tuple ⟨[.bool (Hy c l),.agg ⟨[.int .u16 (.ofNat c)]⟩]⟩):=by
 obtain⟨z,h1,h2⟩:=O5 n L hc l hl hl2 l.length L 0 (by omega) (by show _ < 1000000;omega)
 rw[List.drop_zero] at h2
 have h3:Bp (n+2) 10860 [Sl.v 1 (slN (ints l)),.func (.func 67) ⟨[]⟩ ⟨[.pointer (some ⟨1,0,none⟩)]⟩,.agg ⟨[.int .u16 (.ofNat c)]⟩]=some (.tuple ⟨[I z,.agg ⟨[.int .u16 (.ofNat c)]⟩]⟩):=by
  rw[AbE]
  have hn:(slN (ints l)).n=l.length:=by show (ints l).length=_;simp[ints]
  show Ir (Bp (n+1)) L L (slN (ints l)) (Int.ofNat (slN (ints l)).n) 0 (.ofNat c)=_
  rw[hn];exact h1
 rw[AbF]
 show LJ (Bp (n+2)) L (slN (ints l)) (.ofNat c)=_
 unfold LJ
 simp only[h3,Ac,FW,Dj,EG,BP,RL,show ∀ q:Int,Bi .u16 (.int .u16 q)=some q from fun _=>rfl,h2]
def MI:Option (List Int)→Int
 | none=>64
 | some b=>.ofNat b.length
noncomputable def K8:Option (List Int)→Sl
 | none=>⟨0,2,[]⟩
 | some b=>slN b
noncomputable def AhU:Value:=(.func (.func 65) ⟨[]⟩ ⟨[.pointer (some ⟨1,0,none⟩),.pointer (some ⟨2,0,none⟩),.pointer (some ⟨3,0,none⟩),.pointer (some ⟨4,0,none⟩),.pointer (some ⟨5,0,none⟩)]⟩)
noncomputable def objs (r c k f g:Nat) (us:List Nat) (x:List Int) (st:Option (List Int)):List Value:=[.agg ⟨[Cv 0 (Ha r c k f us)]⟩,.agg ⟨[S g x]⟩,.agg ⟨[I (MI st)]⟩,.agg ⟨[Sl.v 1 (K8 st)]⟩,.agg ⟨[AhU]⟩]
noncomputable def UQ (r c k f g:Nat) (us:List Nat) (x:List Int) (l:List Nat) (i:Nat) (st:Option (List Int)):List Value:=[Sl.v 1 (slN (ints l)),I (.ofNat i),.pointer (some ⟨1,0,none⟩),.pointer (some ⟨2,0,none⟩),.pointer (some ⟨3,0,none⟩),.pointer (some ⟨4,0,none⟩),.pointer (some ⟨5,0,none⟩)]++objs r c k f g us x st
noncomputable def KS (r c k f g:Nat) (us:List Nat) (x:List Int) (st:Option (List Int)):Value:=.tuple ⟨.tuple ⟨[]⟩::objs r c k f g us x st⟩
theorem lH (pu:Af) (r c k f g:Nat) (us:List Nat) (x:List Int) (l:List Nat) (i:Nat) (st:Option (List Int)):MG pu L (UQ r c k f g us x l i st)=Gm pu L L (slN (ints l)) (.ofNat i) 0 (Ha r c k f us) (sl g x) (MI st) (K8 st):=rfl
theorem ZB (r c k f:Nat) (us:List Nat):AL (Ha r c k f us) (0+0+3)=some (Sl.v 1 ⟨len us,f,Ji us⟩):=rfl
theorem AbQ (n:Nat) (l:List Int):Bp (n+1) 71 [Sl.v 1 (slN l)]=some (Sl.v 1 (KY 1 (slN l))):=by
 rw[Ajq]
 show mD (Bp n) L (slN l)=_
 unfold mD
 cases l with
 | nil=>rfl
 | cons a l=>rfl
theorem ZC (l:List Int):(KY 1 (slN l)).n=l.length∧(KY 1 (slN l)).cs=l.map I∧Dp (Nat.beq (KY 1 (slN l)).fl 1) (Nat.beq (KY 1 (slN l)).fl 2)=true:=by
 cases l with
 | nil=>exact⟨rfl,rfl,rfl⟩
 | cons a l =>
  refine⟨rfl,?_,rfl⟩
  show Aq (((a::l).length - 0)*1) (Am (0*1) ((a::l).map I))=_
  rw[Cg,Bz,Nat.zero_mul,List.drop_zero,Nat.sub_zero,Nat.mul_one,List.take_of_length_le (by simp)]
theorem nM (l:List Nat):(⟨len (ints l),bb (MQ (ints l)) 2 0,AP Dy (CY (ints l))⟩:Sl)=slN (own l):=by
 have h1:len (ints l)=(own l).length:=by rw[AV,Pk];simp[ints]
 have h2:bb (MQ (ints l)) 2 0=fl0 (own l):=by
  cases l with
  | nil=>rw[show own []=[] from List.mergeSort_nil];rfl
  | cons a l =>
   have h:=Pk (a::l)
   cases e:own (a::l) with
   | nil=>rw[e] at h;simp at h
   | cons b m=>rfl
 rw[h1,h2,Cc];rfl
theorem cB (l:List Int):CG (Bi .i64) (l.map I)=some l:=by
 induction l with
 | nil=>rfl
 | cons a l ih =>
  show oo (some a) none (fun b=>oo (CG (Bi .i64) (l.map I)) none fun bs=>some (b::bs))=_
  rw[ih];rfl
section
variable {r c k f g:Nat} {us:List Nat} {x:List Int}
noncomputable def Gu (r c:Nat) (x:List Int) (us:List Nat):List Nat:=us.map fun t=>LU x (cellL r c t)
theorem lI {i:Nat} (hi:i < us.length):(Gu r c x us).drop i=LU x (cellL r c us[i])::(Gu r c x us).drop (i+1):=by
 unfold Gu
 rw[List.drop_eq_getElem_cons (by simpa using hi)];simp
theorem AbR (hg:(r,c,us)∈BO) {i:Nat} (hi:i < us.length):LU x (cellL r c us[i]) < 2 ^ (r*c):=by
 have:=UO x (cellL r c us[i])
 rwa [((Cs hg).row _ (List.getElem_mem hi)).2.1] at this
theorem AbS (n M:Nat) (hg:(r,c,us)∈BO) (l:List Nat) (hl:l.length≤8) (st:Option (List Int)) :
 FY (Bp (n+4)) M (slN (ints l)) (.ofNat us.length) 0 (Ha r c k f us) (sl g x) (MI st) (K8 st)=some (KS r c k f g us x (upd KJ st (own l))):=by
 have e1:Bp (n+4) 10690 [Sl.v 1 (slN (ints l))]=some (.tuple ⟨[.func (.func 89) ⟨[]⟩ ⟨[.pointer (some ⟨1,0,none⟩)]⟩,.agg ⟨[Sl.v 1 (slN (ints l))]⟩]⟩):=by
  rw[AbG];rfl
 have e2:CG (Bi .i64) (slN (ints l)).cs=some (ints l):=cB _
 have hll:len (ints l)=l.length:=by rw[AV];simp[ints]
 have e3:an (Nat.beq (len (ints l)) (slN (ints l)).n) (Nat.ble (len (ints l)) 1000000)=true:=by
  rw[hll,show (slN (ints l)).n=l.length from by show (ints l).length=_;simp[ints],show Nat.beq l.length l.length=true from by simp,show Nat.ble l.length 1000000=true from Nat.ble_eq_true_of_le (by omega)];rfl
 have ho:=Pk l
 have hon:(slN (own l)).n=(own l).length:=rfl
 have fin:∀ b:Bool,Jv (Bp (n+4)) M (slN (own l)) b 0 (Ha r c k f us) (sl g x) (MI st) (K8 st)=some (KS r c k f g us x (if b then some (own l) else st)):=fun b=>by
  cases b <;> rfl
 unfold FY
 simp only[ZB,Ac,Dc,DT,show Nat.beq us.length (len us)=true from by rw[AV];simp,Ak,e1,FW,Dj,EG,show Om 89 0 (.func (.func 89) ⟨[]⟩ ⟨[.pointer (some ⟨1,0,none⟩)]⟩)=some [.pointer (some ⟨1,0,none⟩)] from rfl,show MK (.pointer (some ⟨1,0,none⟩)) 1 0=true from rfl,RL,e2,e3,nM,hon,fin]
 try rw[show len (ints l)=(own l).length from by rw[hll,ho]]
 cases st with
 | none =>
  rw[show AY (Int.ofNat (own l).length) (MI none)=true from Hw (show (own l).length < 64 from by omega),Ak]
  rfl
 | some b =>
  show bb (AY (Int.ofNat (own l).length) (Int.ofNat b.length)) _ (bb (Bd (Int.ofNat (own l).length) (Int.ofNat b.length)) (oo (Bp (n+4) 70 [Sl.v 1 (slN (own l)),Sl.v 1 (slN b)]) none _) _)=some (KS r c k f g us x (if (own l).length < b.length∨((own l).length=b.length∧KJ (own l) b=true) then some (own l) else some b))
  rw[BI,DT]
  have W:∀ h:(own l).length < b.length∨((own l).length=b.length∧KJ (own l) b=true),some (KS r c k f g us x (some (own l)))=some (KS r c k f g us x (if (own l).length < b.length∨((own l).length=b.length∧KJ (own l) b=true) then some (own l) else some b)):=fun h=>by rw[if_pos h]
  have V:∀ h:¬ ((own l).length < b.length∨((own l).length=b.length∧KJ (own l) b=true)),some (KS r c k f g us x (some b))=some (KS r c k f g us x (if (own l).length < b.length∨((own l).length=b.length∧KJ (own l) b=true) then some (own l) else some b)):=fun h=>by rw[if_neg h]
  by_cases h1:(own l).length < b.length
  ·rw[decide_eq_true h1,Ak];exact W (Or.inl h1)
  ·rw[decide_eq_false h1,AA]
   by_cases h2:(own l).length=b.length
   ·have h4:Bp (n+4) 70 [Sl.v 1 (slN (own l)),Sl.v 1 (slN b)]=some (I (cmpL (own l) b)):=Xg (n+1) _ _ h2 (by omega)
    rw[show Nat.beq (own l).length b.length=true from by rw[h2];simp,Ak,h4,Ac,BP,Ac,nG]
    cases h3:KJ (own l) b with
    | true=>rw[h3] at W;exact W (Or.inr ⟨h2,rfl⟩)
    | false=>rw[h3] at V;exact V (fun h=>by rcases h with h | ⟨_,h⟩;exact h1 h;cases h)
   ·rw[show Nat.beq (own l).length b.length=false from Bool.eq_false_iff.2 fun h=>h2 (Nat.eq_of_beq_eq_true h),AA];exact V (fun h=>by rcases h with h | ⟨h,_⟩;exact h1 h;exact h2 h)
end
end Go.BkQ
set_option maxRecDepth 100000
set_option maxHeartbeats 4000000
namespace Go.BkQ
open Go Go.Sp Go.BkVM Go.BkH
theorem XL (n:Nat):Dr n 0=[]:=by unfold Dr;simp
theorem nN (l:List Nat) (k:Nat):(⟨(KY 1 (slN (ints l))).n+1,0,Aq (((KY 1 (slN (ints l))).n+1)*1) (Am 0 (Br (KY 1 (slN (ints l))).cs [I (.ofNat k)]))⟩:Sl)=slN (ints (l++[k]))∧an (Nat.ble (0+((KY 1 (slN (ints l))).n+1)*1) (len (Br (KY 1 (slN (ints l))).cs ([I (.ofNat k)]:List Value)))) (Au Ah (Aq (((KY 1 (slN (ints l))).n+1)*1) (Am 0 (Br (KY 1 (slN (ints l))).cs ([I (.ofNat k)]:List Value)))))=true:=by
 obtain⟨h1,h2,_⟩:=ZC (ints l)
 have hl:(ints l).length=l.length:=by simp[ints]
 have e1:Br ((ints l).map I) [I (.ofNat k)]=(ints (l++[k])).map I:=by rw[BH];simp[ints]
 have e2:Aq ((l.length+1)*1) (Am 0 ((ints (l++[k])).map I))=(ints (l++[k])).map I:=by
  rw[Cg,Bz,List.drop_zero,Nat.mul_one,List.take_of_length_le (by simp[ints])]
 rw[h1,h2,hl,e1,e2]
 constructor
 ·have e3:(ints (l++[k])).length=l.length+1:=by simp[ints]
  have e4:fl0 (ints (l++[k]))=0:=by
   cases h:ints (l++[k]) with
   | nil=>rw[h] at e3;simp at e3
   | cons a m=>rfl
  unfold slN
  rw[e3,e4]
 ·have e5:Nat.ble (0+(l.length+1)*1) (len ((ints (l++[k])).map I))=true:=Nat.ble_eq_true_of_le (by rw[AV];simp[ints])
  rw[e5,Bh]
  show (((ints (l++[k])).map I).all Ah)=true
  rw[List.all_eq_true]
  intro v hv
  obtain⟨z,_,rfl⟩:=List.mem_map.1 hv
  rfl
section
variable {r c k f g:Nat} {us:List Nat} {x:List Int}
def rE (r c k f g:Nat) (us:List Nat) (x:List Int) (N d:Nat):Prop:=∀ (i:Nat) (l:List Nat) (st:Option (List Int)),i+d=us.length→l.length≤i→(∀ k∈l,k < 16) →
 Bp N 10650 (UQ r c k f g us x l i st)=some (KS r c k f g us x (JP KJ (r*c) ((Gu r c x us).drop i) l st))
theorem SF (N M:Nat) {d i:Nat} (hg:(r,c,us)∈BO) (hS:rE r c k f g us x (N+1) d) (hi:i+1+d=us.length) (l:List Nat) (hl:l.length≤i) (hl16:∀ k∈l,k < 16):∀ (w e:Nat) (st:Option (List Int)),e < 2 ^ (r*c)→(Dr (r*c) e).length < w →
 KZ (Bp (N+1)) M w (slN (ints l)) (.ofNat i) (.ofNat e) 0 (Ha r c k f us) (sl g x) (MI st) (K8 st)=some (KS r c k f g us x ((Dr (r*c) e).foldl (fun st b=>JP KJ (r*c) ((Gu r c x us).drop (i+1)) (l++[b]) st) st))
 | 0,_,_,_,h=>by omega
 | w + 1, e, st, he, hw => by
  have hp:=Cs hg
  have hrc:r*c≤16:=Nat.mul_le_mul hp.r4 hp.c4
  have h8:us.length≤8:=hp.len8
  have he16:e < 65536:=Nat.lt_of_lt_of_le he (Nat.pow_le_pow_right (n:=2) (by omega) hrc)
  show KX (Bp (N+1)) M (KZ (Bp (N+1)) M w) (slN (ints l)) (.ofNat i) (.ofNat e) 0 (Ha r c k f us) (sl g x) (MI st) (K8 st)=_
  by_cases h0:e=0
  ·subst h0
   rw[XL];rfl
  ·obtain⟨m,b,rfl⟩:=kU h0
   have hb:b < r*c:=(Nat.pow_lt_pow_iff_right (a:=2) (by omega)).1 (by omega:2 ^ b < 2 ^ (r*c))
   have hbits:=kX (m:=m) hb
   rw[hbits] at hw ⊢
   have hz:Bd (Int.ofNat (2 ^ (b+1)*m+2 ^ b)) 0=false:=by
    rw[show (0:Int) = .ofNat 0 from rfl,DT]
    exact Bool.eq_false_iff.2 fun h=>h0 (Nat.eq_of_beq_eq_true h)
   obtain⟨a1,a2⟩:=nN l b
   obtain⟨c1,c2,c3⟩:=ZC (ints l)
   have hroom:EQ ((KY 1 (slN (ints l))).n+1) 8=true:=by
    rw[c1,show (ints l).length=l.length from by simp[ints]]
    have:l.length≤8:=by omega
    generalize l.length=q at this
    have:q=0∨q=1∨q=2∨q=3∨q=4∨q=5∨q=6∨q=7∨q=8:=by omega
    rcases this with rfl | rfl | rfl | rfl | rfl | rfl | rfl | rfl | rfl <;> rfl
   have hcall:=hS (i+1) (l++[b]) st (by omega) (by simp;omega) (fun a ha=>by
    rcases List.mem_append.1 ha with ha | ha
    ·exact hl16 a ha
    ·rw[List.mem_singleton.1 ha];omega)
   have ih:=SF N M hg hS hi l hl hl16 w (2 ^ (b+1)*m) (JP KJ (r*c) ((Gu r c x us).drop (i+1)) (l++[b]) st) (Nat.lt_of_le_of_lt (Nat.le_add_right _ _) he) (by rw[List.length_cons] at hw;omega)
   rw[List.foldl_cons,←ih]
   unfold UQ objs at hcall
   unfold KX
   rw[hz,show nt false=true from rfl,Ak,AbQ,Ac,Dc,Ac,kY N he16,Ac,BP,Ac,c3,hroom,show an true true=true from rfl,Ak,a2,Ak,a1,DC i (by omega)]
   refine Eq.trans (congrArg (fun q=>oo q none _) hcall) ?_
   rw[nL he16]
   rfl
theorem OP (hg:(r,c,us)∈BO) (hx:x.length=r*c):∀ (d N i w:Nat) (l:List Nat) (st:Option (List Int)),d+4≤N→i+d=us.length→d < w→l.length≤i→(∀ k∈l,k < 16) →
 Gm (Bp N) L w (slN (ints l)) (.ofNat i) 0 (Ha r c k f us) (sl g x) (MI st) (K8 st)=some (KS r c k f g us x (JP KJ (r*c) ((Gu r c x us).drop i) l st))
 | _,_,_,0,_,_,_,_,h,_,_=>by omega
 | 0, N, i, w + 1, l, st, hN, hi, _, hl, hl16 => by
  obtain⟨N,rfl⟩:∃ N',N=N'+4:=⟨N - 4,by omega⟩
  have h8:us.length≤8:=(Cs hg).len8
  have hii:i=us.length:=by omega
  subst hii
  show HY (Bp (N+4)) L (Gm (Bp (N+4)) L w) (slN (ints l)) (.ofNat us.length) 0 (Ha r c k f us) (sl g x) (MI st) (K8 st)=_
  unfold HY
  rw[ZB,Ac,Dc,Ac,show AY (Int.ofNat us.length) (Int.ofNat (Sl.n (⟨len us,f,Ji us⟩:Sl)))=false from by rw[BI];exact decide_eq_false (by show ¬ us.length < len us;rw[AV];omega),AA,AbS N L hg l (by omega) st]
  rw[show (Gu r c x us).drop us.length=[] from List.drop_eq_nil_of_le (by unfold Gu;simp)]
  rfl
 | d + 1, N, i, w + 1, l, st, hN, hi, hw, hl, hl16 => by
  obtain⟨N,rfl⟩:∃ N',N=N'+1:=⟨N - 1,by omega⟩
  have hp:=Cs hg
  have hrc:r*c≤16:=Nat.mul_le_mul hp.r4 hp.c4
  have h8:us.length≤8:=hp.len8
  have hiu:i < us.length:=by omega
  have hS:rE r c k f g us x (N+1) d:=fun i l st h1 h2 h3=>by
   rw[kZ,lH]
   exact OP hg hx d N i L l st (by omega) h1 (by show _ < 1000000;omega) h2 h3
  have ih:=OP hg hx d (N+1) (i+1) w l st (by omega) (by omega) (by omega) (by omega) hl16
  have hch:Bp (N+1) 51 [Cv 0 (Ha r c k f us),Sl.v 1 (sl g x),I (.ofNat i)]=some (.int .u16 (.ofNat (LU x (cellL r c us[i])))):=O4 N g f hg (List.getElem?_eq_getElem hiu) hx
  have hcin:=AbR (x:=x) hg hiu
  have hc16:LU x (cellL r c us[i]) < 65536:=Nat.lt_of_lt_of_le hcin (Nat.pow_le_pow_right (n:=2) (by omega) hrc)
  rw[lI hiu]
  generalize LU x (cellL r c us[i])=e at *
  show HY (Bp (N+1)) L (Gm (Bp (N+1)) L w) (slN (ints l)) (.ofNat i) 0 (Ha r c k f us) (sl g x) (MI st) (K8 st)=_
  unfold HY JP
  rw[ZB,Ac,Dc,Ac,show AY (Int.ofNat i) (Int.ofNat (Sl.n (⟨len us,f,Ji us⟩:Sl)))=true from by rw[BI];exact decide_eq_true (by show i < len us;rw[AV];omega),Ak,hch,Ac,show Bi .u16 (.int .u16 (.ofNat e))=some (.ofNat e) from rfl,Ac,show (0:Int) = .ofNat 0 from rfl,DT]
  have skip:Jw (Bp (N+1)) L (Gm (Bp (N+1)) L w) (slN (ints l)) (.ofNat i) false 0 (Ha r c k f us) (sl g x) (MI st) (K8 st)=some (KS r c k f g us x (JP KJ (r*c) ((Gu r c x us).drop (i+1)) l st)):=by
   unfold Jw
   rw[AA,DC i (by omega)]
   exact ih
  by_cases h0:e=0
  ·rw[if_pos (.inl h0),h0]
   exact skip
  ·rw[show Nat.beq e 0=false from Bool.eq_false_iff.2 fun h=>h0 (Nat.eq_of_beq_eq_true h),show nt false=true from rfl,Ak]
   obtain⟨N',rfl⟩:∃ N',N=N'+2:=⟨N - 2,by omega⟩
   rw[AbP N' hc16 l hl16 (by omega)]
   cases hh:Hy e l with
   | true=>rw[if_pos (.inr rfl)];exact skip
   | false =>
    rw[if_neg (fun h=>by rcases h with h | h;exact h0 h;cases h)]
    show FY (Bp (N'+2+1)) L (slN (ints l)) (.ofNat i) 0 (Ha r c k f us) (sl g x) (MI st) (K8 st)=_
    have hln:(slN (ints l)).n=l.length:=by show (ints l).length=_;simp[ints]
    have hbl := SF (k := k) (f := f) (g := g) (N' + 2) L hg hS (by omega) l hl hl16 L e st hcin (by
     have:(Dr (r*c) e).length≤r*c:=by unfold Dr;exact Nat.le_trans (List.length_filter_le _ _) (by simp)
     show _ < 1000000;omega)
    unfold FY
    rw[ZB,Ac,Dc,Ac,show Bd (Int.ofNat i) (Int.ofNat (Sl.n (⟨len us,f,Ji us⟩:Sl)))=false from by rw[DT];exact Bool.eq_false_iff.2 fun h=>by have:=Nat.eq_of_beq_eq_true h;rw[show (Sl.n (⟨len us,f,Ji us⟩:Sl))=len us from rfl,AV] at this;omega,AA,hln]
    cases st with
    | none =>
     rw[show Bd (Int.ofNat l.length) (MI none)=false from by rw[show MI none = .ofNat 64 from rfl,DT];exact Bool.eq_false_iff.2 fun h=>by have:=Nat.eq_of_beq_eq_true h;omega,AA,hch,Ac,if_neg (fun h=>by obtain⟨b,hb,_⟩:=h;cases hb)]
     exact hbl
    | some b =>
     rw[show MI (some b) = .ofNat b.length from rfl,DT]
     by_cases hf:l.length=b.length
     ·rw[if_pos ⟨b,rfl,hf⟩,show Nat.beq l.length b.length=true from by rw[hf];simp,Ak];rfl
     ·rw[if_neg (fun h=>by obtain⟨q,hq,hh⟩:=h;injection hq with hq;rw[hq] at hf;exact hf hh),show Nat.beq l.length b.length=false from Bool.eq_false_iff.2 fun h=>hf (Nat.eq_of_beq_eq_true h),AA,hch,Ac]
      exact hbl
theorem Ajr (hg:(r,c,us)∈BO) (hx:x.length=r*c) (n:Nat):Bp (n+13) 10650 (UQ r c k f g us x [] 0 none)=some (KS r c k f g us x (JP KJ (r*c) (Gu r c x us) [] none)):=by
 have h8:us.length≤8:=(Cs hg).len8
 rw[kZ,lH]
 have:=OP (k:=k) (f:=f) (g:=g) hg hx us.length (n+12) 0 L [] none (by omega) (by omega) (by show _ < 1000000;omega) (by simp) (by simp)
 rw[List.drop_zero] at this
 exact this
end
end Go.BkQ
set_option maxRecDepth 100000
set_option maxHeartbeats 4000000
namespace Go.BkQ
open Go Go.Sp Go.BkVM Go.BkH
theorem Ajs:nt (Bd (0:Int) 0)=false:=rfl
theorem ZE:kQ KJ:=⟨Zw,fun h1 h2=>SB h1 h2,fun h1 h2 h3=>Zx h1 h2 h3⟩
theorem nO (n f g:Nat) {r c k:Nat} {us:List Nat} {x:List Int} (hg:(r,c,us)∈BO) (hk:k=1∨k=2∨k=3∨k=4) (hR:Ou r c k x):∃ H,WI KJ (r*c) (Gu r c x us) H∧Bp (n+14) 29 [Jd r c k f us,S g x]=some (.tuple ⟨[Sl.v 1 (slN (ints H)),I 0]⟩):=by
 obtain⟨H,h1,h2⟩:=bZ ZE (n:=r*c) (C:=Gu r c x us) (fun e he=>by
  unfold Gu at he
  obtain⟨t,ht,rfl⟩:=List.mem_map.1 he
  have:=UO x (cellL r c t)
  rwa [((Cs hg).row t ht).2.1] at this)
 refine⟨H,h2,?_⟩
 have h3:=Ow (n+6) f g hg hk hR
 have h4:=Ajr (k:=k) (f:=f) (g:=g) hg hR.1 n
 rw[h1] at h4
 have h3':Bp (n+13) 43 [.agg ⟨[I (.ofNat r),I (.ofNat c),I (.ofNat k),Sl.v 1 ⟨len us,f,Ji us⟩]⟩,(Sl.v 1 (Sl.mk 1 0 (Aq (1*1) (Am 0 ([(Sl.v 1 (sl g x))]:List Value)))))]=some (.tuple ⟨[Cv 0 (Ha r c k f us),I 0]⟩):=h3
 rw[q20]
 show ZM (Bp (n+13)) L (.ofNat r) (.ofNat c) (.ofNat k) ⟨len us,f,Ji us⟩ (sl g x)=_
 unfold ZM
 simp only[h3',Ac,FW,Dj,EG,jK,NA,Ak,BP,Ajs,AA]
 refine Eq.trans (congrArg (fun q=>oo q none _) h4) ?_
 rfl
end Go.BkQ
namespace Go.BkH
theorem UR {c s n:Nat} (hc:c < 2 ^ n):c &&& s=0↔Hy c (Dr n s)=false:=by
 constructor
 ·intro h
  cases hh:Hy c (Dr n s) with
  | false=>rfl
  | true =>
   obtain⟨k,hk,hb⟩:=Gs.1 hh
   unfold Dr at hk
   have h2:=(List.mem_filter.1 hk).2
   have:(c &&& s).testBit k=true:=by rw[Nat.testBit_and,hb,h2];rfl
   rw[h,Nat.zero_testBit] at this;cases this
 ·intro h
  apply Nat.eq_of_testBit_eq
  intro j
  rw[Nat.zero_testBit,Nat.testBit_and]
  cases h1:c.testBit j with
  | false=>rfl
  | true =>
   cases h2:s.testBit j with
   | false=>rfl
   | true =>
    exfalso
    have hj:j < n:=by
     apply Classical.byContradiction
     intro hn
     have:=Nat.testBit_lt_two_pow (x:=c) (i:=j) (Nat.lt_of_lt_of_le hc (Nat.pow_le_pow_right (by omega) (by omega)))
     rw[this] at h1;cases h1
    have:Hy c (Dr n s)=true:=Gs.2 ⟨j,by unfold Dr;simp[hj,h2],h1⟩
    rw[h] at this;cases this
def nP (C:List Nat) (s:Nat):Bool:=C.all fun c=>c == 0 || !(c &&& s == 0)
theorem nQ {C:List Nat} {n s:Nat} (hC:∀ c∈C,c < 2 ^ n):nP C s=true↔jL C (Dr n s):=by
 unfold nP jL
 rw[List.all_eq_true]
 refine forall_congr' fun c=>forall_congr' fun hc=>?_
 rw[Bool.or_eq_true,beq_iff_eq,Bool.not_eq_true']
 refine or_congr Iff.rfl ?_
 rw[beq_eq_false_iff_ne,Ne,UR (hC c hc)]
 cases Hy c (Dr n s) <;> simp
theorem SG (n s:Nat):(Dr n s).Pairwise (· < ·):=List.pairwise_lt_range.filter _
def setL:List Nat→Nat
 | []=>0
 | k::H=>2 ^ k ||| setL H
theorem QR (H:List Nat) (j:Nat):(setL H).testBit j=decide (j∈H):=by
 induction H with
 | nil=>simp[setL]
 | cons k H ih =>
  unfold setL
  rw[Nat.testBit_or,Nat.testBit_two_pow,ih]
  by_cases h:k=j
  ·subst h;simp
  ·have:j≠k:=fun e=>h e.symm
   simp[h,this]
theorem nR {H:List Nat} {n:Nat} (h:∀ k∈H,k < n):setL H < 2 ^ n:=Nat.lt_pow_two_of_testBit _ fun i hi=>by
 rw[QR]
 exact decide_eq_false fun hm=>by have:=h i hm;omega
theorem cK {H:List Nat} {n:Nat} (ha:H.Pairwise (· < ·)) (h:∀ k∈H,k < n):Dr n (setL H)=H:=by
 refine List.Perm.eq_of_pairwise (le:=(· < ·)) (fun a b _ _ h1 h2=>absurd h1 (by omega)) (SG _ _) ha ((List.perm_ext_iff_of_nodup (Fb (SG _ _)) (Fb ha)).2 fun j=>?_)
 unfold Dr
 rw[List.mem_filter,List.mem_range,QR,decide_eq_true_iff]
 exact⟨fun h=>h.2,fun hj=>⟨h j hj,hj⟩⟩
variable {lt:List Int→List Int→Bool} {n:Nat} {C H:List Nat}
end Go.BkH
