/- Made from wip. -/
import Derived.Test.YtciohfkjabeooaaGreatDoorBaA7x

set_option maxRecDepth 100000
set_option maxHeartbeats 4000000
namespace Go.BkQ
open Go Go.Sp Go.BaAM
theorem p47 (k:Nat) (args:List Value):Bp (k+1) 56 args=m56 (Bp k) L args:=by kernel_rfl
theorem p50 (k:Nat) (args:List Value):Bp (k+1) 32 args=m32 (Bp k) L args:=by kernel_rfl
theorem yG (k:Nat) (args:List Value):Bp (k+1) 10590 args=OP (Bp k) L args:=by kernel_rfl
theorem gD (pu:Af) (M:Nat) {a b:List Int} (hab:a.length=b.length) (hl:a.length < 900000) (f1 f2:Nat):∀ (r r':List Int) (w i:Nat),a.drop i=r→b.drop i=r'→r.length < w →
 UJ pu M w (sl f1 a) (sl f2 b) (.ofNat i)=some (.bool (decide (r=r')))
 | _,_,0,_,_,_,h=>by omega
 | [], r', w + 1, i, hd, hd', _ => by
  have h1:=UY hd
  have h2:r'=[]:=by rw[←hd'];exact List.drop_eq_nil_iff.2 (by omega)
  subst h2
  show bb (AY (.ofNat i) (.ofNat a.length)) _ (some (Value.bool true))=_
  rw[Gq,decide_eq_false (by omega)];rfl
 | x :: r, r', w + 1, i, hd, hd', hw => by
  obtain⟨hd2,hi,_⟩:=XQ hd
  cases r' with
  | nil=>have h1:=UY hd';omega
  | cons y r' =>
   obtain⟨hd3,hi3,_⟩:=XQ hd'
   have hr:(x::r).length=r.length+1:=rfl
   have hlt:Nat.blt i a.length=true:=by rw[blt_eq];simp;omega
   have hlt2:Nat.blt i b.length=true:=by rw[blt_eq];simp;omega
   have ih:=gD pu M hab hl f1 f2 r r' w (i+1) hd2 hd3 (by omega)
   show UI pu M (UJ pu M w) (sl f1 a) (sl f2 b) (.ofNat i)=_
   unfold UI
   rw[I4,Gq,decide_eq_true hi,Ak,Cx,Ac,I4,GX,GX,hlt,hlt2,show an true true=true from rfl,Ak,kU hd,Ac,BP,Ac,Ak,kU hd',Ac,BP,Ac,DC i (by omega),ih,Eo]
   by_cases h:x=y
   ·subst h;simp
   ·have hc:¬ (x::r=y::r'):=fun e=>h (by injection e)
    rw[decide_eq_false h,decide_eq_false hc];rfl
theorem YC (n f1 f2:Nat) {a b:List Int} (h:a.length=b.length) (hl:a.length < 900000):Bp (n+1) 32 [S f1 a,S f2 b]=some (.bool (decide (a=b))):=by
 rw[p50]
 exact gD (Bp n) L h hl f1 f2 a b L 0 List.drop_zero List.drop_zero (by show _ < 1000000;omega)
end Go.BkQ
set_option maxRecDepth 100000
set_option maxHeartbeats 4000000
namespace Go.BkQ
open Go Go.Sp Go.BaAM
theorem WF:∀ n,upN n=List.range n
 | 0=>rfl
 | n + 1 => by
  show Br (upN n) [n]=_
  rw[BH,WF n,List.range_succ]
theorem VZ (r c t:Nat):cellL r c t=(List.range (r*c)).map (Jc r c t):=by
 show AP (Jc r c t) (upN (r*c))=_
 rw[Cc,WF]
theorem Zt (n:Nat) (K:Int) (s:Sl):AP (fun p:Nat×Nat=>AP (fun t=>AP (fun i=>Bp (n+2) 72 [.agg ⟨[I (.ofNat p.1),I (.ofNat p.2),I K,Sl.v 1 s]⟩,I (.ofNat t),I (.ofNat i)]) (upN (p.1*p.2))) (Iq (Nat.beq p.1 p.2))) MH=AP (fun p=>AP (fun t=>AP (fun i=>some (I (.ofNat (Jc p.1 p.2 t i)))) (upN (p.1*p.2))) (Iq (Nat.beq p.1 p.2))) MH:=by kernel_rfl
theorem gF:Au (fun p:Nat×Nat×List Nat=>Au (fun t=>WC (Iq (Nat.beq p.1 p.2.1)) t) p.2.2) CY=true:=by kernel_rfl
theorem gG {r c:Nat} {us:List Nat} (hg:(r,c,us)∈CY) {t:Nat} (ht:t∈us):t∈Iq (Nat.beq r c):=by
 have h:=gF
 rw[Bh,List.all_eq_true] at h
 have h:=h _ hg
 rw[Bh,List.all_eq_true] at h
 exact fD.1 (h t ht)
theorem kY (n:Nat) {K:Int} {s:Sl} {r c t i:Nat} (hr:1≤r∧r≤4) (hc:1≤c∧c≤4) (ht:t∈Iq (Nat.beq r c)) (hi:i < r*c):Bp (n+2) 72 [.agg ⟨[I (.ofNat r),I (.ofNat c),I K,Sl.v 1 s]⟩,I (.ofNat t),I (.ofNat i)]=some (I (.ofNat (Jc r c t i))):=by
 have h1:=FM (f:=fun p:Nat×Nat=>AP (fun t=>AP (fun i=>Bp (n+2) 72 [.agg ⟨[I (.ofNat p.1),I (.ofNat p.2),I K,Sl.v 1 s]⟩,I (.ofNat t),I (.ofNat i)]) (upN (p.1*p.2))) (Iq (Nat.beq p.1 p.2))) (g:=fun p=>AP (fun t=>AP (fun i=>some (I (.ofNat (Jc p.1 p.2 t i)))) (upN (p.1*p.2))) (Iq (Nat.beq p.1 p.2))) (Zt n K s) (r,c) (LU hr hc)
 have h2:=FM (f:=fun t=>AP (fun i=>Bp (n+2) 72 [.agg ⟨[I (.ofNat r),I (.ofNat c),I K,Sl.v 1 s]⟩,I (.ofNat t),I (.ofNat i)]) (upN (r*c))) (g:=fun t=>AP (fun i=>some (I (.ofNat (Jc r c t i)))) (upN (r*c))) h1 t ht
 exact FM (f:=fun i=>Bp (n+2) 72 [.agg ⟨[I (.ofNat r),I (.ofNat c),I K,Sl.v 1 s]⟩,I (.ofNat t),I (.ofNat i)]) (g:=fun i=>some (I (.ofNat (Jc r c t i)))) h2 i (by rw[WF];exact List.mem_range.2 hi)
theorem Qv (l:List Int):Aq (l.length*1) (Am 0 (l.map I))=l.map I:=by rw[Cg,Bz,List.drop_zero,Nat.mul_one];exact List.take_of_length_le (by simp)
theorem Ah4 (l:List Int):an (Nat.ble (0+l.length*1) (len (l.map I))) (Au Ah (l.map I))=true:=by
 rw[BB,AV,show Nat.ble (0+l.length*1) (l.map I).length=true from Nat.ble_eq_true_of_le (by simp)];rfl
theorem OD (n M f:Nat) {K:Int} {s:Sl} {r c t:Nat} {x:List Int} (hr:1≤r∧r≤4) (hc:1≤c∧c≤4) (ht:t∈Iq (Nat.beq r c)) (hx:x.length=r*c) (hlt:∀ k∈cellL r c t,k < x.length):∀ (d i w:Nat) (q:List Int) (cc:Nat),i+d=r*c→d < w→q.length=i→cc / 2=q.length→cc % 2=0 →
 LQ (Bp (n+2)) M w (sl f x) (.ofNat t) q.length cc (.ofNat i) (.ofNat r) (.ofNat c) K s (q.map I)=some (.tuple ⟨[S 0 (q++pick x ((cellL r c t).drop i))]⟩)
 | _,_,0,_,_,_,h,_,_,_=>by omega
 | 0, i, w + 1, q, cc, hd, _, hq, _, _ => by
  show bb (Au Ah (q.map I)) (bb (AY (.ofNat i) (.ofNat x.length)) _ (bb (Au Ah (q.map I)) (bb (an (Nat.ble (0+q.length*1) (len (q.map I))) (Au Ah (Aq (q.length*1) (Am 0 (q.map I))))) (some (Value.tuple ⟨[(Sl.v 1 (Sl.mk q.length 0 (Aq (q.length*1) (Am 0 (q.map I)))))]⟩)) none) none)) none=_
  rw[BB,Ak,Gq,decide_eq_false (by omega),AA,Ak,Qv,Ah4,Ak]
  have:(cellL r c t).drop i=[]:=by rw[VZ];exact List.drop_eq_nil_iff.2 (by simp;omega)
  rw[this,show pick x []=[] from rfl,List.append_nil];rfl
 | d + 1, i, w + 1, q, cc, hd, hw, hq, hcc, hcc2 => by
  have hi:i < r*c:=by omega
  have hrc:r*c≤16:=Nat.mul_le_mul hr.2 hc.2
  have hget:(cellL r c t)[i]?=some (Jc r c t i):=by rw[VZ];simp[hi]
  have hk:=hlt _ (List.mem_of_getElem? hget)
  have yY:(cellL r c t).drop i=Jc r c t i::(cellL r c t).drop (i+1):=by
   have hl:i < (cellL r c t).length:=(List.getElem?_eq_some_iff.1 hget).1
   rw[List.drop_eq_getElem_cons hl]
   congr 1
   exact(List.getElem?_eq_some_iff.1 hget).2
  have hpk:pick x ((cellL r c t).drop i)=x.getD (Jc r c t i) 0::pick x ((cellL r c t).drop (i+1)):=by rw[yY];rfl
  show LM (Bp (n+2)) M (LQ (Bp (n+2)) M w) (sl f x) (.ofNat t) q.length cc (.ofNat i) (.ofNat r) (.ofNat c) K s (q.map I)=_
  unfold LM
  rw[BB,Ak,I4,Gq,decide_eq_true (by omega),Ak,kY n hr hc ht hi,Ac,BP,Ac,Cx,Ac,show Nat.blt (Jc r c t i) x.length=true from by rw[blt_eq];simpa using hk,show an true true=true from rfl,Ak,GX,O1 hk,Ac,BP,Ac,AfI (by omega) hcc hcc2,Ak,AfJ,BB,Ak,DC i (by omega)]
  have ih:=OD n M f (K:=K) (s:=s) hr hc ht hx hlt d (i+1) w (q++[x[Jc r c t i]]) (2*(q.length+1)+bb false 1 0) (by omega) (by omega) (by simp;omega) (by rw[List.length_append];show (2*(q.length+1)+0) / 2=q.length+1;omega) (by show (2*(q.length+1)+0) % 2=0;omega)
  rw[List.length_append] at ih
  refine ih.trans ?_
  rw[hpk,List.append_assoc,show x.getD (Jc r c t i) 0=x[Jc r c t i] from by simp[List.getD_eq_getElem?_getD,hk]];rfl
theorem WG (n f fl:Nat) {r c k t:Nat} {us:List Nat} {x:List Int} (hg:(r,c,us)∈CY) (ht:t∈us) (hx:x.length=r*c):Bp (n+3) 10590 [Ir r c k fl us,S f x,I (.ofNat t)]=some (.tuple ⟨[S 0 (pick x (cellL r c t))]⟩):=by
 have hp:=Eb hg
 rw[yG]
 have h:=OD n L f (K:=.ofNat k) (s:=⟨len us,fl,M8 us⟩) ⟨hp.r1,hp.r4⟩ ⟨hp.c1,hp.c4⟩ (gG hg ht) hx (fun j hj=>by rw[hx];exact(hp.row t ht).2.2 j hj) (r*c) 0 L [] 0 (by omega) (by have:r*c≤16:=Nat.mul_le_mul hp.r4 hp.c4;show _ < 1000000;omega) rfl rfl rfl
 exact h
end Go.BkQ
set_option maxRecDepth 100000
set_option maxHeartbeats 4000000
namespace Go.BkQ
open Go Go.Sp Go.BaAM
end Go.BkQ
set_option maxRecDepth 100000
set_option maxHeartbeats 4000000
namespace Go.BkQ
open Go Go.Sp Go.BaAM
theorem Qw (r c k f:Nat) (us:List Nat):(Value.agg ⟨[I (.ofNat r),I (.ofNat c),I (.ofNat k),S f (us.map Int.ofNat)]⟩)=Ir r c k f us:=by
 unfold S;rw[fK];rfl
end Go.BkQ
set_option maxRecDepth 100000
set_option maxHeartbeats 4000000
namespace Go.BkQ
open Go Go.Sp Go.BaAM
def KT:List Int→List Int→Bool
 | x::r,y::s=>if x=y then KT r s else decide (x < y)
 | _,_=>false
theorem OE:∀ a,KT a a=false
 | []=>rfl
 | x::r=>by simp[KT,OE r]
theorem OW:∀ {a b c:List Int},KT a b=true→KT b c=true→KT a c=true
 | [],_,_,h,_=>by simp[KT] at h
 | _::_,[],_,h,_=>by simp[KT] at h
 | _::_,_::_,[],_,h=>by simp[KT] at h
 | x :: a, y :: b, z :: c, h1, h2 => by
  unfold KT at h1 h2 ⊢
  by_cases e1:x=y
  ·subst e1
   by_cases e2:x=z
   ·subst e2
    simp only[if_true] at *
    exact OW h1 h2
   ·rw[if_neg e2] at h2 ⊢
    exact h2
  ·rw[if_neg e1] at h1
   by_cases e2:y=z
   ·subst e2
    rw[if_neg e1];exact h1
   ·rw[if_neg e2] at h2
    have h1:=of_decide_eq_true h1
    have h2:=of_decide_eq_true h2
    rw[if_neg (by omega)]
    exact decide_eq_true (by omega)
theorem Pg:∀ {a b:List Int},a.length=b.length→a≠b→KT a b=false→KT b a=true
 | [],[],_,h,_=>absurd rfl h
 | [],_::_,h,_,_=>by simp at h
 | _::_,[],h,_,_=>by simp at h
 | x :: a, y :: b, hl, hn, h => by
  unfold KT at h ⊢
  by_cases e:x=y
  ·subst e
   simp only[if_true] at *
   exact Pg (by simpa using hl) (fun e=>hn (by rw[e])) h
  ·rw[if_neg e] at h
   have h:=of_decide_eq_false h
   rw[if_neg (Ne.symm e)]
   exact decide_eq_true (by omega)
theorem V3 {a b:List Int} (h:KT a b=true):KT b a=false:=by
 cases e:KT b a with
 | false=>rfl
 | true=>have:=OW h e;rw[OE] at this;cases this
theorem Ha {n i:Nat} (h:i < n):AY (Int.ofNat i) (Int.ofNat n)=true:=by rw[Gq];exact decide_eq_true h
theorem Gt {n i:Nat} (h:¬ i < n):AY (Int.ofNat i) (Int.ofNat n)=false:=by rw[Gq];exact decide_eq_false h
theorem LX {n i:Nat} (h:i < n):an (Nat.blt i n) true=true:=by rw[CF,blt_eq,decide_eq_true h];rfl
theorem O5 (pu:Af) (M:Nat) {a b:List Int} (hab:a.length=b.length) (ha:a.length < 900000) (f1 f2:Nat):∀ (d w i:Nat),i+d=a.length→d < w →
 RQ pu M w (sl f1 a) (sl f2 b) (.ofNat i)=some (.bool (KT (a.drop i) (b.drop i)))
 | _,0,_,_,h=>by omega
 | 0, w + 1, i, hd, _ => by
  show PK pu M (RQ pu M w) (sl f1 a) (sl f2 b) (.ofNat i)=_
  unfold PK
  simp only[I4,Gt (show ¬ i < a.length from by omega),AA,List.drop_eq_nil_of_le (show a.length≤i by omega)]
  rfl
 | d + 1, w + 1, i, hd, hw => by
  have h1:i < a.length:=by omega
  have h2:i < b.length:=by omega
  show PK pu M (RQ pu M w) (sl f1 a) (sl f2 b) (.ofNat i)=_
  unfold PK
  simp only[I4,GX,Ha h1,Ak,Cx,Ac,LX h1,LX h2,O1 h1,O1 h2,BP,Eo,DC i (by omega),O5 pu M hab ha f1 f2 d w (i+1) (by omega) (by omega),List.drop_eq_getElem_cons h1,List.drop_eq_getElem_cons h2,KT,Gy]
  by_cases h:a[i]=b[i] <;> simp[h]
theorem p54 (k:Nat) (args:List Value):Bp (k+1) 58 args=m58 (Bp k) L args:=by kernel_rfl
theorem Zu (n f1 f2:Nat) {a b:List Int} (hab:a.length=b.length) (ha:a.length < 900000):Bp (n+1) 58 [S f1 a,S f2 b]=some (.bool (KT a b)):=by
 rw[p54]
 exact O5 (Bp n) L hab ha f1 f2 a.length L 0 (by omega) (by show _ < 1000000;omega)
def UA (x y:Int):Int:=if x < y then -1 else if y < x then 1 else 0
theorem p90 (k:Nat) (args:List Value):Bp (k+1) 54 args=zH (Bp k) L args:=by kernel_rfl
theorem xI (k:Nat) (args:List Value):Bp (k+1) 71 args=m71 (Bp k) L args:=by kernel_rfl
theorem yH (n:Nat) (x:Int):Bp (n+1) 71 [I x]=some (.bool false):=by
 rw[xI]
 show some (Value.bool (nt (Bd x x)))=_
 rw[Eo,decide_eq_true rfl];rfl
theorem kZ (n:Nat) (x y:Int):Bp (n+2) 54 [I x,I y]=some (I (UA x y)):=by
 rw[p90]
 unfold zH wW UA
 simp only[Dj,EG,BP,Ac,yH,BU,AA,Gy]
 by_cases h1:x < y
 ·simp[h1]
 ·by_cases h2:y < x <;> simp[h1,h2]
def cmpL (a b:List Int):Int:=if KT a b then -1 else if KT b a then 1 else 0
theorem lH (a b:List Int):AY (cmpL a b) 0=KT a b:=by
 rw[Gy]
 unfold cmpL
 cases KT a b <;> cases KT b a <;> rfl
theorem lI {x y:Int} (h:x≠y) (a b:List Int):UA x y=cmpL (x::a) (y::b)∧UA x y≠0:=by
 unfold UA cmpL KT
 rw[if_neg h,if_neg (Ne.symm h)]
 by_cases h1:x < y
 ·rw[if_pos h1,if_pos (decide_eq_true h1)];exact⟨rfl,by decide⟩
 ·rw[if_neg h1,if_pos (show y < x by omega),if_neg (by simpa using h1),if_pos (by simp;omega)];exact⟨rfl,by decide⟩
theorem Zv (x:Int) (a b:List Int):cmpL (x::a) (x::b)=cmpL a b:=by
 unfold cmpL
 simp only[KT,if_true]
theorem p70 (k:Nat) (args:List Value):Bp (k+1) 27 args=m27 (Bp k) L args:=by kernel_rfl
theorem V4 (n M:Nat) {a b:List Int} (hab:a.length=b.length) (ha:a.length < 900000) (f1 f2:Nat):∀ (d w i:Nat),i+d=a.length→d < w →
 QS (Bp (n+2)) M w (sl f1 a) (sl f2 b) (sl f1 a) (.ofNat a.length) (.ofNat i)=some (I (cmpL (a.drop i) (b.drop i)))
 | _,0,_,_,h=>by omega
 | 0, w + 1, i, hd, _ => by
  show Po (Bp (n+2)) M (QS (Bp (n+2)) M w) (sl f1 a) (sl f2 b) (sl f1 a) (.ofNat a.length) (.ofNat i)=_
  unfold Po UG
  simp only[I4,Gt (show ¬ i < a.length from by omega),Gt (show ¬ a.length < b.length from by omega),AA,List.drop_eq_nil_of_le (show a.length≤i by omega),List.drop_eq_nil_of_le (show b.length≤i by omega)]
  rfl
 | d + 1, w + 1, i, hd, hw => by
  have h1:i < a.length:=by omega
  have h2:i < b.length:=by omega
  show Po (Bp (n+2)) M (QS (Bp (n+2)) M w) (sl f1 a) (sl f2 b) (sl f1 a) (.ofNat a.length) (.ofNat i)=_
  unfold Po
  simp only[I4,GX,Ha h1,Ha h2,Ak,Cx,Ac,LX h1,LX h2,O1 h1,O1 h2,BP,Eo,DC i (by omega),V4 n M hab ha f1 f2 d w (i+1) (by omega) (by omega),List.drop_eq_getElem_cons h1,List.drop_eq_getElem_cons h2,kZ,show nt true=false from rfl,AA]
  by_cases h:a[i]=b[i]
  ·rw[h,Zv,show UA b[i] b[i]=0 from by unfold UA;rw[if_neg (by omega),if_neg (by omega)]];rfl
  ·obtain⟨h3,h4⟩:=lI h (a.drop (i+1)) (b.drop (i+1))
   rw[decide_eq_false h4,h3];rfl
theorem WH (n f1 f2:Nat) {a b:List Int} (hab:a.length=b.length) (ha:a.length < 900000):Bp (n+3) 27 [S f1 a,S f2 b]=some (I (cmpL a b)):=by
 rw[p70]
 exact V4 n L hab ha f1 f2 a.length L 0 (by omega) (by show _ < 1000000;omega)
end Go.BkQ
set_option maxRecDepth 100000
set_option maxHeartbeats 4000000
namespace Go.BkQ
open Go Go.Sp Go.BaAM
noncomputable def RW (l:List (List Int)):List Value:=l.map fun x=>Sl.v 1 (sl 0 x)
theorem Un (l:List (List Int)):len (RW l)=l.length:=by rw[AV];simp[RW]
theorem yI (l m:List (List Int)):RW (l++m)=RW l++RW m:=by simp[RW]
theorem Zw (f:Nat) (x:List Int):Ah (Sl.v 1 (sl f x))=true:=rfl
theorem Dr (l:List (List Int)):Au Ah (RW l)=true:=by
 rw[Bh,List.all_eq_true]
 intro v hv
 obtain⟨x,_,rfl⟩:=List.mem_map.1 hv
 exact Zw 0 x
theorem Ah5 {l:List (List Int)} {i:Nat} (h:i < l.length):AL (RW l) (0+i*1)=some (Sl.v 1 (sl 0 l[i])):=by
 rw[BZ,Nat.zero_add,Nat.mul_one];simp[RW,h]
theorem gH (j:Nat) (h:j < 1000000):Aj .i64 (Int.sub (Int.ofNat (j+1)) 1)=Int.ofNat j:=by
 rw[show Int.sub (Int.ofNat (j+1)) 1=(j:Int) from by show ((j+1:Nat):Int) - 1=j;omega,Oe _ (by omega) (by omega)];rfl
def O8 (m:Nat) (l:List (List Int)):Prop:=∀ x∈l,x.length=m
theorem O8.set {m:Nat} {l:List (List Int)} (h:O8 m l) (i:Nat) {x:List Int} (hx:x.length=m):O8 m (l.set i x):=fun y hy=>by
 rcases List.mem_or_eq_of_mem_set hy with h2 | rfl
 ·exact h y h2
 ·exact hx
theorem O8.at {m:Nat} {l:List (List Int)} (h:O8 m l) {i:Nat} (hi:i < l.length):(l[i]).length=m:=h _ (List.getElem_mem hi)
end Go.BkQ
set_option maxRecDepth 100000
set_option maxHeartbeats 4000000
namespace Go.BkQ
open Go Go.Sp Go.BaAM
def yJ (a b:List Int):Prop:=KT b a=false
theorem R8 {m:Nat} {a b c:List Int} (ha:a.length=m) (hb:b.length=m) (hc:c.length=m) (h1:yJ a b) (h2:yJ b c):yJ a c:=by
 unfold yJ at *
 by_cases e:a=b
 ·subst e;exact h2
 ·have h3:=Pg (by rw[ha,hb]) (Ne.symm e) h1
  by_cases e2:b=c
  ·subst e2;exact h1
  ·have h4:=Pg (by rw[hb,hc]) (Ne.symm e2) h2
   exact V3 (OW h3 h4)
end Go.BkQ
set_option maxRecDepth 100000
set_option maxHeartbeats 4000000
namespace Go.BkQ
open Go Go.Sp Go.BaAM
end Go.BkQ
set_option maxRecDepth 100000
set_option maxHeartbeats 4000000
namespace Go.BkQ
open Go Go.Sp Go.BaAM
theorem Qk {q:List (List Int)} {c:Nat} (hq:q.length≤2000) (hc:c / 2=q.length) (hc2:c % 2=0):GV 1 24 q.length c 1 (RW q)=true:=by
 unfold GV EQ
 rw[Un,hc,hc2]
 rw[show Nat.ble ((4*(q.length+1)+4096)*24) 281474976710656=true from Nat.ble_eq_true_of_le (by omega),show Nat.ble (q.length+1) q.length=false from by rw[ble_eq];simp,show Nat.ble (0+q.length*1) q.length=true from Nat.ble_eq_true_of_le (by omega),show Nat.beq (0+q.length*1) q.length=true from by simp]
 rfl
theorem nY (q:List (List Int)) (x:List Int):Br (Am 0 (RW q)) [(Sl.v 1 (sl 0 x))]=RW (q++[x]):=by
 rw[BH,Bz,List.drop_zero,yI];rfl
theorem gI (l:List (List Int)) (Z:List Value):Aq (l.length*1) (Am 0 (RW l++Z))=RW l:=by
 rw[Cg,Bz,List.drop_zero,Nat.mul_one]
 rw[List.take_append_of_le_length (by simp[RW])]
 exact List.take_of_length_le (by simp[RW])
theorem Qz:QM (.tuple ⟨[]⟩)=true:=rfl
noncomputable def SR (l:List (List Int)):Value:=Sl.v 1 ⟨l.length,0,RW l⟩
noncomputable def Fh (r c:Nat) (x:List Int) (us:List Nat):List (List Int):=us.map fun t=>pick x (cellL r c t)
theorem Nf {r c:Nat} {us ts:List Nat} {x:List Int} (hg:(r,c,us)∈CY) (hs:∀ t∈ts,t∈us):O8 (r*c) (Fh r c x ts):=fun y hy=>by
 obtain⟨t,ht,rfl⟩:=List.mem_map.1 hy
 rw[Qr,((Eb hg).row t (hs t ht)).2.1]
end Go.BkQ
set_option maxRecDepth 100000
set_option maxHeartbeats 4000000
namespace Go.BkQ
open Go Go.Sp Go.BaAM
end Go.BkQ
set_option maxRecDepth 100000
set_option maxHeartbeats 4000000
namespace Go.BkQ
open Go Go.Sp Go.BaAM
def K4:List Int→List (List Int)→List Int
 | b,[]=>b
 | b,y::r=>K4 (if KT y b then y else b) r
theorem OG:∀ {r:List (List Int)} {b:List Int},K4 b r∈b::r
 | [],b=>by simp[K4]
 | y :: r, b => by
  have h:=OG (r:=r) (b:=if KT y b then y else b)
  unfold K4
  rcases List.mem_cons.1 h with h | h
  ·rw[h];split <;> simp
  ·exact List.mem_cons_of_mem _ (List.mem_cons_of_mem _ h)
theorem Uq {m:Nat}:∀ {r:List (List Int)} {b:List Int},O8 m (b::r)→∀ x∈b::r,yJ (K4 b r) x
 | [], b, _, x, hx => by
  obtain rfl:=List.mem_singleton.1 hx
  exact OE _
 | y :: r, b, he, x, hx => by
  have hb:b.length=m:=he b (by simp)
  have hy:y.length=m:=he y (by simp)
  have he2:O8 m ((if KT y b then y else b)::r):=fun z hz=>by
   rcases List.mem_cons.1 hz with rfl | hz
   ·split
    ·exact hy
    ·exact hb
   ·exact he z (by simp[hz])
  have ih:=Uq he2
  have hmn:(K4 (if KT y b then y else b) r).length=m:=he2 _ OG
  unfold K4
  have h0:=ih _ List.mem_cons_self
  have hxm:x.length=m:=he x hx
  rcases List.mem_cons.1 hx with rfl | hx
  ·refine R8 hmn (he2 _ List.mem_cons_self) hxm h0 ?_
   by_cases h:KT y x=true
   ·rw[if_pos h];exact V3 h
   ·rw[if_neg h];exact OE _
  ·rcases List.mem_cons.1 hx with rfl | hx
   ·refine R8 hmn (he2 _ List.mem_cons_self) hxm h0 ?_
    by_cases h:KT x b=true
    ·rw[if_pos h];exact OE _
    ·rw[if_neg h];unfold yJ;simpa using h
   ·exact ih x (List.mem_cons_of_mem _ hx)
end Go.BkQ
set_option maxRecDepth 100000
set_option maxHeartbeats 4000000
namespace Go.BkQ
open Go Go.Sp Go.BaAM
theorem WI (off:Nat) (cs:List Value):Pv (Cv off cs)=some ⟨off,cs⟩:=rfl
theorem NA {α:Type} (a:α):isS (some a)=true:=rfl
theorem p53 (k:Nat) (args:List Value):Bp (k+1) 33 args=m33 (Bp k) L args:=by kernel_rfl
theorem nZ (l:List Int):Aq (l.length*1) (l.map I)=l.map I:=by rw[Cg,Nat.mul_one];exact List.take_of_length_le (by simp)
theorem WJ (l:List Int):Aq ((0+l.length)*1) (Am 0 (l.map I))=l.map I:=by rw[Nat.zero_add,Bz,List.drop_zero,nZ]
theorem X6 (n M f g:Nat) {r c k:Nat} {us:List Nat} {x:List Int} (hg:(r,c,us)∈CY) (hx:x.length=r*c):∀ (d w i fb:Nat) (b:List Int),i+d=us.length→d < w→b.length=r*c →
 PI (Bp (n+3)) M w (sl g x) (sl fb b) (.ofNat i) (.ofNat r) (.ofNat c) (.ofNat k) ⟨us.length,f,M8 us⟩=some (S 0 (K4 b (Fh r c x (us.drop i))))
 | _,0,_,_,_,_,h,_=>by omega
 | 0, w + 1, i, fb, b, hd, _, hb => by
  have hp:=Eb hg
  have hrc:1≤r*c:=Nat.mul_le_mul hp.r1 hp.c1
  have hrc2:r*c≤16:=Nat.mul_le_mul hp.r4 hp.c4
  show Pt (Bp (n+3)) M (PI (Bp (n+3)) M w) (sl g x) (sl fb b) (.ofNat i) (.ofNat r) (.ofNat c) (.ofNat k) ⟨us.length,f,M8 us⟩=_
  have hz:Nat.beq b.length 0=false:=by
   cases e:Nat.beq b.length 0 with
   | false=>rfl
   | true=>have:=Nat.eq_of_beq_eq_true e;omega
  have hr:EQ (0+b.length) 8=true:=Nat.ble_eq_true_of_le (by omega)
  have hfit:an (Nat.ble (0+(0+b.length)*1) (len (b.map I))) (Au Ah (b.map I))=true:=by
   rw[BB,AV,List.length_map,show Nat.ble (0+(0+b.length)*1) b.length=true from Nat.ble_eq_true_of_le (by omega)];rfl
  unfold Pt UK
  simp only[I4,GX,Gt (show ¬ i < us.length by omega),AA,hz,hr,nZ,BB,WJ,Ak]
  rw[←BB b,hfit,Ak,List.drop_eq_nil_of_le (by omega),Nat.zero_add];rfl
 | d + 1, w + 1, i, fb, b, hd, hw, hb => by
  have hp:=Eb hg
  have hl8:=hp.len8
  have hrc:r*c≤16:=Nat.mul_le_mul hp.r4 hp.c4
  have hi:i < us.length:=by omega
  have hmem:us[i]∈us:=List.getElem_mem hi
  have hget:AL (M8 us) (i*1)=some (I (.ofNat us[i])):=by
   rw[BZ,Nat.mul_one,show M8 us=us.map fun n=>IV (Int.ofNat n) from Cc _ _,List.getElem?_map,List.getElem?_eq_getElem hi];rfl
  have htu:=WG n g f (k:=k) hg hmem hx
  have htu:Bp (n+3) 10590 [.agg ⟨[I (.ofNat r),I (.ofNat c),I (.ofNat k),Sl.v 1 ⟨us.length,f,M8 us⟩]⟩,Sl.v 1 (sl g x),I (.ofNat us[i])]=some (.tuple ⟨[Sl.v 1 (sl 0 (pick x (cellL r c us[i])))]⟩):=by rw[Ir,AV] at htu;exact htu
  have hpl:(pick x (cellL r c us[i])).length=r*c:=by rw[Qr,(hp.row us[i] hmem).2.1]
  have hc:=Zu (n+2) 0 fb (a:=pick x (cellL r c us[i])) (b:=b) (by rw[hpl,hb]) (by omega)
  have hc:Bp (n+3) 58 [Sl.v 1 (sl 0 (pick x (cellL r c us[i]))),Sl.v 1 (sl fb b)]=some (.bool (KT (pick x (cellL r c us[i])) b)):=hc
  have ih:=fun fb b hb=>X6 n M f g (k:=k) hg hx d w (i+1) fb b (by omega) (by omega) hb
  show Pt (Bp (n+3)) M (PI (Bp (n+3)) M w) (sl g x) (sl fb b) (.ofNat i) (.ofNat r) (.ofNat c) (.ofNat k) ⟨us.length,f,M8 us⟩=_
  unfold Pt UL
  simp only[Ha hi,Ak,Cx,Ac,LX hi,hget,BP,htu,FW,Dj,EG,Dc,hc,BU,DC i (by omega)]
  rw[ih 0 _ hpl,ih fb b hb,List.drop_eq_getElem_cons hi]
  show bb (KT (pick x (cellL r c us[i])) b) (some (S 0 (K4 (pick x (cellL r c us[i])) (Fh r c x (us.drop (i+1)))))) (some (S 0 (K4 b (Fh r c x (us.drop (i+1))))))=some (S 0 (K4 (if KT (pick x (cellL r c us[i])) b then pick x (cellL r c us[i]) else b) (Fh r c x (us.drop (i+1)))))
  cases KT (pick x (cellL r c us[i])) b <;> rfl
theorem WK (n f g:Nat) {r c k:Nat} {us:List Nat} {x:List Int} (hg:(r,c,us)∈CY) (hx:x.length=r*c):Bp (n+4) 33 [Ir r c k f us,S g x]=some (S 0 (K4 x (Fh r c x us))):=by
 rw[p53]
 have h:=X6 n L f g (k:=k) hg hx us.length L 0 g x (by omega) (by have:=(Eb hg).len8;show _ < 1000000;omega) hx
 rw[←AV] at h
 exact h
theorem gK:Pv (.pointer none)=none:=rfl
theorem Zx:iZ (.pointer none)=true:=rfl
theorem Nz {α:Type}:isS (none:Option α)=false:=rfl
end Go.BkQ
set_option maxRecDepth 100000
set_option maxHeartbeats 4000000
namespace Go.BkQ
open Go Go.Sp Go.BaAM
noncomputable def SRf (f:Nat) (l:List (List Int)):Value:=Sl.v 1 ⟨l.length,f,RW l⟩
theorem p22 (k:Nat) (args:List Value):Bp (k+1) 8 args=m8 (Bp k) L args:=by kernel_rfl
theorem Ah6 (k:Nat) (args:List Value):Bp (k+1) 22 args=zG (Bp k) L args:=by kernel_rfl
theorem gL (pu:Af) (M:Nat) {a:List Int} (ha:a.length < 900000) (f1 f2:Nat):∀ (d w i:Nat),i+d=a.length→d < w →
 Pm pu M w (sl f1 a) (sl f2 a) (.ofNat i)=some (.bool true)
 | _,0,_,_,h=>by omega
 | 0, w + 1, i, hd, _ => by
  show Pk pu M (Pm pu M w) (sl f1 a) (sl f2 a) (.ofNat i)=_
  unfold Pk UE
  simp only[I4,Gt (show ¬ i < a.length from by omega),AA]
 | d + 1, w + 1, i, hd, hw => by
  have h1:i < a.length:=by omega
  show Pk pu M (Pm pu M w) (sl f1 a) (sl f2 a) (.ofNat i)=_
  unfold Pk
  simp only[I4,GX,Ha h1,Ak,Cx,Ac,LX h1,O1 h1,BP,Eo,decide_eq_true,show nt true=false from rfl,AA,DC i (by omega),gL pu M ha f1 f2 d w (i+1) (by omega) (by omega)]
theorem Zy (n f1 f2:Nat) {a:List Int} (ha:a.length < 900000):Bp (n+1) 22 [Sl.v 1 (sl f1 a),Sl.v 1 (sl f2 a)]=some (.bool true):=by
 rw[Ah6]
 show bb (nt (Bd (Int.ofNat a.length) (Int.ofNat a.length))) (some (.bool false)) (Pm (Bp n) L L (sl f1 a) (sl f2 a) (.ofNat 0))=_
 rw[Eo,decide_eq_true rfl,show nt true=false from rfl,AA]
 exact gL (Bp n) L ha f1 f2 a.length L 0 (by omega) (by show _ < 1000000;omega)
theorem AfO {l:List (List Int)} {i:Nat} (h:i < l.length):AL (RW l) (i*1)=some (Sl.v 1 (sl 0 l[i])):=by rw[←Ah5 h,Nat.zero_add]
theorem X7 (n M:Nat) {l:List (List Int)} {m:Nat} (hm:m < 900000) (he:O8 m l) (hl:l.length < 900000) (f1 f2:Nat):∀ (d w i:Nat),i+d=l.length→d < w →
 Wu (Bp (n+1)) M w ⟨l.length,f1,RW l⟩ ⟨l.length,f2,RW l⟩ (.ofNat i)=some (.bool true)
 | _,0,_,_,h=>by omega
 | 0, w + 1, i, hd, _ => by
  show Wt (Bp (n+1)) M (Wu (Bp (n+1)) M w) ⟨l.length,f1,RW l⟩ ⟨l.length,f2,RW l⟩ (.ofNat i)=_
  unfold Wt bX
  simp only[Gt (show ¬ i < l.length from by omega),AA]
 | d + 1, w + 1, i, hd, hw => by
  have h1:i < l.length:=by omega
  show Wt (Bp (n+1)) M (Wu (Bp (n+1)) M w) ⟨l.length,f1,RW l⟩ ⟨l.length,f2,RW l⟩ (.ofNat i)=_
  unfold Wt
  simp only[Ha h1,Ak,Cx,Ac,LX h1,AfO h1,Dc,Zy n 0 0 (a:=l[i]) (by rw[he.at h1];exact hm),BU,show nt true=false from rfl,AA,DC i (by omega),X7 n M hm he hl f1 f2 d w (i+1) (by omega) (by omega)]
theorem gM (n f1 f2:Nat) {l:List (List Int)} {m:Nat} (hm:m < 900000) (he:O8 m l) (hl:l.length < 900000):Bp (n+2) 8 [SRf f1 l,SRf f2 l]=some (.bool true):=by
 rw[p22]
 show bb (nt (Bd (Int.ofNat l.length) (Int.ofNat l.length))) (some (.bool false)) (Wu (Bp (n+1)) L L ⟨l.length,f1,RW l⟩ ⟨l.length,f2,RW l⟩ (.ofNat 0))=_
 rw[Eo,decide_eq_true rfl,show nt true=false from rfl,AA]
 exact X7 n L hm he hl f1 f2 l.length L 0 (by omega) (by show _ < 1000000;omega)
theorem yK (k:Nat) (args:List Value):Bp (k+1) 10040 args=OL (Bp k) L args:=by kernel_rfl
end Go.BkQ
set_option maxRecDepth 100000
set_option maxHeartbeats 4000000
namespace Go.BkQ
open Go Go.Sp Go.BaAM
theorem WL (n f fl:Nat) {r c k t i:Nat} {us:List Nat} {x:List Int} (hg:(r,c,us)∈CY) (hi:us[i]?=some t) (hx:x.length=r*c):Bp (n+1) 28 [Yp r c k fl us,S f x,I (.ofNat i)]=some (S 0 (pick x (cellL r c t))):=by
 have hp:=Eb hg
 have ht:=List.mem_of_getElem? hi
 obtain⟨_,h1,h2⟩:=hp.row t ht
 have hrc:r*c≤16:=Nat.mul_le_mul hp.r4 hp.c4
 have hii:i < us.length:=(List.getElem?_eq_some_iff.1 hi).1
 exact Yr n f 0 (d0 := I (.ofNat r)) (d1 := I (.ofNat c)) (d2 := I (.ofNat k)) (d3 := Sl.v 1 ⟨len us, fl, M8 us⟩) (rows := fA r c us) (m := len us) (i := i) (row := cellL r c t) (x := x)
  (by rw[BZ,Nat.mul_one,show fA r c us=us.map fun t=>KX (cellL r c t) from Cc _ _,List.getElem?_map,hi];rfl) (by rw[AV];exact hii) (by rw[h1,hx]) (fun k hk=>by rw[hx];exact h2 k hk) (by rw[hx];omega)
end Go.BkQ
set_option maxRecDepth 100000
set_option maxHeartbeats 4000000
namespace Go.BkQ
open Go Go.Sp Go.BaAM
def ext (k:Nat):Nat→List Int→List (List Int)
 | 0,p=>[p]
 | d+1,p=>(List.range k).flatMap fun c=>ext k d (p++[Int.ofNat c])
theorem X9 {k:Nat}:∀ (d:Nat) (p:List Int),∀ x∈ext k d p,x.length=p.length+d
 | 0, p, x, h => by
  simp[ext] at h;subst h;rfl
 | d + 1, p, x, h => by
  obtain⟨c,_,h⟩:=List.mem_flatMap.1 h
  have:=X9 d _ x h
  simp at this;omega
theorem R9 {α:Type} (m:Nat) (f:Nat→List α):∀ (l:List Nat),(∀ c,(f c).length=m)→(l.flatMap f).length=l.length*m
 | [],_=>by simp
 | a :: l, h => by
  rw[List.flatMap_cons,List.length_append,h a,R9 m f l h,List.length_cons,Nat.succ_mul,Nat.add_comm]
theorem ext_size (k:Nat):∀ (d:Nat) (p:List Int),(ext k d p).length=k ^ d
 | 0,p=>rfl
 | d + 1, p => by
  show ((List.range k).flatMap fun c=>ext k d (p++[Int.ofNat c])).length=_
  rw[R9 (k ^ d) _ _ fun c=>ext_size k d _,List.length_range,Nat.pow_succ,Nat.mul_comm]
noncomputable def BI (r c:Nat) (us:List Nat) (x:List Int):Bool:=(Fh r c x us).all fun y=>! KT y x
theorem AfP (l:List Int):FE (l.map I) (l.map I)=true:=by
 induction l with
 | nil=>rfl
 | cons z l ih =>
  show an (an (De .i64 .i64) (Bd z z)) (FE (l.map I) (l.map I))=true
  rw[ih,Eo,decide_eq_true rfl];rfl
theorem WM (l:List Int):Au RH (l.map I)=true:=by
 rw[Bh,List.all_eq_true]
 intro x hx
 obtain⟨z,_,rfl⟩:=List.mem_map.1 hx
 rfl
theorem takeA (p:List Int) (z:Int):Br (Aq (p.length*1) (p.map I)) [(.int .i64 z)]=(p++[z]).map I:=by
 rw[BH,Cg,Nat.mul_one,←List.length_map (f:=I),List.take_length,List.map_append];rfl
theorem takeB (p:List Int) (z:Int):Aq (p.length*1) ((p++[z]).map I)=p.map I:=by
 rw[Cg,Nat.mul_one,List.map_append,←List.length_map (f:=I),List.take_left]
theorem takeC (p:List Int):Aq (p.length*1) (p.map I)=p.map I:=by
 rw[Cg,Nat.mul_one,←List.length_map (f:=I),List.take_length]
theorem Zz (l:List Int):Nat.ble (0+l.length*1) (len (l.map I))=true:=by
 rw[AV,List.length_map];exact Nat.ble_eq_true_of_le (by omega)
theorem Ya (l:List Int):Nat.ble (l.length*1) (len (l.map I))=true:=by
 rw[AV,List.length_map];exact Nat.ble_eq_true_of_le (by omega)
theorem oD {q:List (List Int)} {c:Nat} (hq:q.length≤900000) (hc:c / 2=q.length) (hc2:c % 2=0):GV 1 24 q.length c 1 (RW q)=true:=by
 unfold GV EQ
 rw[Un,hc,hc2]
 rw[show Nat.ble ((4*(q.length+1)+4096)*24) 281474976710656=true from Nat.ble_eq_true_of_le (by omega),show Nat.ble (q.length+1) q.length=false from by rw[ble_eq];simp,show Nat.ble (0+q.length*1) q.length=true from Nat.ble_eq_true_of_le (by omega),show Nat.beq (0+q.length*1) q.length=true from by simp]
 rfl
theorem p29 (k:Nat) (args:List Value):Bp (k+1) 29 args=m29 (Bp k) L args:=by kernel_rfl
theorem gP (n:Nat) {x:List Int} (hx:1≤x.length) (hl:x.length < 900000):Bp (n+1) 29 [S 0 x]=some (S 0 x):=by
 rw[p29]
 show jJ (Bp n) L (sl 0 x)=_
 unfold jJ
 have e1:Nat.ble 1 x.length=true:=Nat.ble_eq_true_of_le hx
 have e2:Nat.beq x.length 0=false:=by
  cases h:Nat.beq x.length 0 with
  | false=>rfl
  | true=>have:=Nat.eq_of_beq_eq_true h;omega
 have e3:EQ (0+x.length) 8=true:=Nat.ble_eq_true_of_le (by omega)
 have e4:(sl 0 x).fl=0:=rfl
 have e5:Nat.ble (0+(0+x.length)*1) (len (x.map I))=true:=by rw[Nat.zero_add,Nat.zero_add];exact Ya x
 rw[e4]
 show bb (Dp false (Dp false (Nat.ble 1 (sl 0 x).n))) (bb (bq true false) none (bb (Nat.beq (sl 0 x).n 0) none (bb (EQ (0+(sl 0 x).n) 8) _ none))) none=_
 rw[I4,GX,e1,e2,e3,takeC,WJ,BB,e5,Nat.zero_add]
 rfl
end Go.BkQ
set_option maxRecDepth 100000
set_option maxHeartbeats 4000000
namespace Go.BkQ
open Go Go.Sp Go.BaAM
noncomputable section
def yL (a b c:Nat):Value:=.func (.func 26) ⟨[]⟩ ⟨[.pointer (some ⟨a,0,none⟩),.pointer (some ⟨b,0,none⟩),.pointer (some ⟨c,0,none⟩)]⟩
def oF (id n c:Nat):Value:=.slice (some ⟨id,0,some 1⟩) n c
def O9 (x:List Int) (B:List Value) (c:Nat) (Q:List (List Int)):Value:=
 .tuple ⟨[.tuple ⟨[]⟩,.agg ⟨x.map I⟩,.agg ⟨[Cv 0 B]⟩,.agg ⟨[oF 6 Q.length c]⟩,.agg ⟨[yL 2 3 4]⟩,EP,.agg ⟨RW Q⟩]⟩
def yM (x:List Int) (B:List Value) (cap co:Nat) (q:List (List Int)):List Value:=
 [oF 1 x.length cap,.pointer (some ⟨2,0,none⟩),.pointer (some ⟨3,0,none⟩),.pointer (some ⟨4,0,none⟩),.agg ⟨x.map I⟩,.agg ⟨[Cv 0 B]⟩,.agg ⟨[oF 5 q.length co]⟩,.agg ⟨[yL 2 3 4]⟩,.agg ⟨RW q⟩]
end
theorem OH:an true true=true:=rfl
theorem gQ (n M:Nat) {x:List Int} (hx1:1≤x.length) (hxl:x.length < 900000) {B:List Value} {q:List (List Int)} {co cb:Nat} (hq:q.length≤900000) (hc:co / 2=q.length) (hc2:co % 2=0) :
 LK (Bp (n+1)) M x.length cb (x.map I) 0 B q.length co (RW q)=some (O9 x B (2*(q.length+1)+bb false 1 0) (q++[x])):=by
 unfold LK
 simp only[Qv,BB,Zz,OH,Ak]
 rw[show (Sl.v 1 (Sl.mk x.length 0 (x.map I)))=S 0 x from rfl,gP n hx1 hxl]
 simp only[Ac,show Bj 1 (S 0 x)=some (sl 0 x) from rfl,I4,GX,WM,Qv,BB,Zz,OH,Ak,oD hq hc hc2]
 rw[show (Sl.v 1 (Sl.mk x.length 0 (x.map I)))=Sl.v 1 (sl 0 x) from rfl,nY,Dr,Ak]
 unfold O9 oF yL
 rw[List.length_append]
 rfl
theorem Sa (n M f:Nat) {r c k:Nat} {us:List Nat} (hg:(r,c,us)∈CY) {x:List Int} (hx:x.length=r*c) {q:List (List Int)} {co cb:Nat} (hq:q.length≤900000) (hc:co / 2=q.length) (hc2:co % 2=0) :
 ∀ (d w i:Nat),i+d=us.length→d < w →
 KJ (Bp (n + 3)) M w x.length cb (.ofNat us.length) (.ofNat i) (x.map I) 0 (FK r c k f us) q.length co (RW q) =
  some (if ((Fh r c x us).drop i).all (fun y=>! KT y x) then O9 x (FK r c k f us) (2*(q.length+1)+bb false 1 0) (q++[x]) else O9 x (FK r c k f us) co q)
 | d,0,_,_,h=>by omega
 | 0, w + 1, i, h1, h2 => by
  have hp:=Eb hg
  have hxl:1≤x.length:=by rw[hx];exact Nat.mul_pos hp.r1 hp.c1
  have hx4:x.length < 900000:=by have:r*c≤16:=Nat.mul_le_mul hp.r4 hp.c4;omega
  show Jf (Bp (n+3)) M (KJ (Bp (n+3)) M w) x.length cb (.ofNat us.length) (.ofNat i) (x.map I) 0 (FK r c k f us) q.length co (RW q)=_
  unfold Jf
  rw[BB,Ak,Dr,Ak,Gt (by omega),AA,gQ (n+2) M hxl hx4 hq hc hc2]
  rw[List.drop_eq_nil_of_le (by unfold Fh;simp;omega)]
  rfl
 | d + 1, w + 1, i, h1, h2 => by
  have hp:=Eb hg
  have hx4:x.length < 900000:=by have:r*c≤16:=Nat.mul_le_mul hp.r4 hp.c4;omega
  have hi:i < us.length:=by omega
  have hu:us.length < 900000:=by have:=hp.len8;omega
  have hrow:=hp.row us[i] (List.getElem_mem hi)
  have hyl:(pick x (cellL r c us[i])).length=x.length:=by
   unfold pick;rw[List.length_map,hrow.2.1,hx]
  show Jf (Bp (n+3)) M (KJ (Bp (n+3)) M w) x.length cb (.ofNat us.length) (.ofNat i) (x.map I) 0 (FK r c k f us) q.length co (RW q)=_
  unfold Jf
  rw[BB,Ak,Dr,Ak,Ha hi,Ak]
  simp only[Qv,BB,Zz,OH,Ak]
  rw[show (Sl.v 1 (Sl.mk x.length 0 (x.map I)))=S 0 x from rfl,show Cv 0 (FK r c k f us)=Yp r c k f us from rfl,show (Value.int .i64 (Int.ofNat i))=I (.ofNat i) from rfl,WL (n+2) 0 f hg (List.getElem?_eq_getElem hi) hx]
  simp only[Ac,show ∀ y,Bj 1 (S 0 y)=some (sl 0 y) from fun _=>rfl,I4,GX,WM,Qv,BB,Zz,OH,Ak]
  rw[show (Sl.v 1 (Sl.mk (pick x (cellL r c us[i])).length 0 ((pick x (cellL r c us[i])).map I)))=S 0 (pick x (cellL r c us[i])) from rfl,WH n 0 0 hyl (by omega),Ac,BP,Ac,lH]
  have hd:(Fh r c x us).drop i=pick x (cellL r c us[i])::(Fh r c x us).drop (i+1):=by
   show (us.map fun t=>pick x (cellL r c t)).drop i=_::(us.map fun t=>pick x (cellL r c t)).drop (i+1)
   rw[List.drop_eq_getElem_cons (by simpa using hi),List.getElem_map]
  rw[hd,List.all_cons]
  cases hlt:KT (pick x (cellL r c us[i])) x with
  | true=>rfl
  | false =>
   rw[AA,DC i (by omega)]
   have ih:=Sa n M f (k:=k) hg hx (cb:=cb) hq hc hc2 d w (i+1) (by omega) (by omega)
   exact ih
end Go.BkQ
set_option maxRecDepth 100000
set_option maxHeartbeats 4000000
namespace Go.BkQ
open Go Go.Sp Go.BaAM
def gT (n r c k f:Nat) (us:List Nat) (d:Nat):Prop:=∀ (p:List Int) (q:List (List Int)) (cap co:Nat),p.length+d=r*c→1≤p.length→q.length+k ^ d≤900000→co / 2=q.length→co % 2=0 →
 ∃ c',c' / 2=(q++(ext k d p).filter (BI r c us)).length∧c' % 2=0∧Bp n 10261 (yM p (FK r c k f us) cap co q)=some (O9 p (FK r c k f us) c' (q++(ext k d p).filter (BI r c us)))
theorem mulN {a b:Nat} (h:a*b < 9223372036854775807):Aj .i64 (Int.mul (.ofNat a) (.ofNat b)) = .ofNat (a*b):=by
 rw[show Int.mul (.ofNat a) (.ofNat b)=((a*b:Nat):Int) from rfl,Oe _ (by omega) (by omega)];rfl
theorem L6 {r c:Nat} (hr:r≤4) (hc:c≤4):Aj .i64 (Int.mul (.ofNat r) (.ofNat c)) = .ofNat (r*c):=mulN (by have:r*c≤4*4:=Nat.mul_le_mul hr hc;omega)
theorem AfQ {co:Nat} {q:List (List Int)} (hc:co / 2=q.length):Dp (Nat.ble 2 co) (MQ (RW q))=true:=by
 cases q with
 | nil=>rw[show MQ (RW [])=true from rfl];cases Nat.ble 2 co <;> rfl
 | cons x r =>
  have:2≤co:=by simp at hc;omega
  rw[Nat.ble_eq_true_of_le this];rfl
theorem AfR (m:Nat) (b:Bool):Dp (Nat.ble 2 (2*(m+1)+bb false 1 0)) b=true:=by
 rw[show Nat.ble 2 (2*(m+1)+bb false 1 0)=true from Nat.ble_eq_true_of_le (by show 2≤2*(m+1)+0;omega)];rfl
theorem AfS {p:List Int} (hp:p.length < 900000) (z:Int):Uz 8 p.length (p.map I) [(.int .i64 z)]=true:=by
 unfold Uz
 rw[show EQ (p.length+1) 8=true from Nat.ble_eq_true_of_le (by omega),Ya]
 rfl
theorem oG (n c:Nat):OJ 6 0 1 (oF 6 n c)=some ⟨n,c⟩:=rfl
theorem gU:O6 26 0 (yL 2 3 4)=some [.pointer (some ⟨2,0,none⟩),.pointer (some ⟨3,0,none⟩),.pointer (some ⟨4,0,none⟩)]:=rfl
theorem oH:FD (.pointer (some ⟨2,0,none⟩)) 2 0=true:=rfl
theorem oI:FD (.pointer (some ⟨3,0,none⟩)) 3 0=true:=rfl
theorem oJ:FD (.pointer (some ⟨4,0,none⟩)) 4 0=true:=rfl
theorem LY:Nq EP=true:=rfl
theorem V5 (n M f:Nat) {r c k:Nat} {us:List Nat} {d:Nat} (hA:gT n r c k f us d) {p:List Int} (hp:p.length+(d+1)=r*c) (hp1:1≤p.length) (hrc:r*c≤16) (hk:k≤4) :
 ∀ (e w i:Nat) (q:List (List Int)) (co cb:Nat),i+e=k→e < w→q.length+e*k ^ d≤900000→co / 2=q.length→co % 2=0 →
 ∃ c', c' / 2 = (q ++ ((List.range' i e).flatMap fun c => ext k d (p ++ [Int.ofNat c])).filter (BI r c us)).length ∧ c' % 2 = 0 ∧
  Ki (Bp n) M w p.length cb (.ofNat k) (.ofNat i) (p.map I) 0 (FK r c k f us) q.length co (RW q)=some (O9 p (FK r c k f us) c' (q++((List.range' i e).flatMap fun c=>ext k d (p++[Int.ofNat c])).filter (BI r c us)))
 | e,0,_,_,_,_,_,h,_,_,_=>by omega
 | 0, w + 1, i, q, co, cb, h1, h2, h3, h4, h5 => by
  refine⟨co,by simpa using h4,h5,?_⟩
  show Je (Bp n) M (Ki (Bp n) M w) p.length cb (.ofNat k) (.ofNat i) (p.map I) 0 (FK r c k f us) q.length co (RW q)=_
  unfold Je
  rw[BB,Ak,Dr,Ak,Gt (by omega),AA]
  simp only[List.range'_zero,List.flatMap_nil,List.filter_nil,List.append_nil]
  rfl
 | e + 1, w + 1, i, q, co, cb, h1, h2, h3, h4, h5 => by
  have hkd:q.length+k ^ d≤900000:=by rw[Nat.succ_mul] at h3;omega
  obtain⟨c1,g1,g2,g3⟩:=hA (p++[Int.ofNat i]) q (2*(p.length+1)+bb false 1 0) co (by simp;omega) (by simp) hkd h4 h5
  generalize hQ:q++(ext k d (p++[Int.ofNat i])).filter (BI r c us)=Q1 at g1 g3
  have hQl:Q1.length≤q.length+k ^ d:=by
   rw[←hQ,List.length_append]
   have:=List.length_filter_le (BI r c us) (ext k d (p++[Int.ofNat i]))
   rw[ext_size] at this
   omega
  obtain⟨c2,j1,j2,j3⟩:=V5 n M f hA hp hp1 hrc hk e w (i+1) Q1 c1 (2*p.length) (by omega) (by omega) (by rw[Nat.succ_mul] at h3;omega) g1 g2
  have hQQ:Q1++((List.range' (i+1) e).flatMap fun c=>ext k d (p++[Int.ofNat c])).filter (BI r c us)=q++((List.range' i (e+1)).flatMap fun c=>ext k d (p++[Int.ofNat c])).filter (BI r c us):=by
   rw[←hQ,List.range'_succ,List.flatMap_cons,List.filter_append,List.append_assoc]
  rw[hQQ] at j1 j3
  refine⟨c2,j1,j2,?_⟩
  have e1:Bp n 10261 [(.slice (some ⟨1,0,some 1⟩) (p.length+1) (2*(p.length+1)+bb false 1 0)),(.pointer (some ⟨2,0,none⟩)),(.pointer (some ⟨3,0,none⟩)),(.pointer (some ⟨4,0,none⟩)),(.agg ⟨(p++[Int.ofNat i]).map I⟩),(.agg ⟨[(Cv 0 (FK r c k f us))]⟩),(.agg ⟨[(.slice (some ⟨5,0,some 1⟩) q.length co)]⟩),(.agg ⟨[(.func (.func 26) ⟨[]⟩ ⟨[(.pointer (some ⟨2,0,none⟩)),(.pointer (some ⟨3,0,none⟩)),(.pointer (some ⟨4,0,none⟩))]⟩)]⟩),(.agg ⟨RW q⟩)]=some (O9 (p++[Int.ofNat i]) (FK r c k f us) c1 Q1):=by
   unfold yM oF at g3
   rw[List.length_append] at g3
   exact g3
  show Je (Bp n) M (Ki (Bp n) M w) p.length cb (.ofNat k) (.ofNat i) (p.map I) 0 (FK r c k f us) q.length co (RW q)=_
  unfold Je
  rw[BB,Ak,Dr,Ak,Ha (by omega),Ak,Ya,Ak,AfS (by omega),Ak,AfR,Ak,AfQ h4,Ak,takeA,BB,Ak,e1,Ac]
  unfold O9
  simp only[FW,Ac,Dj,EG,Qz,Ak,RL,WI,oG,gU,oH,oI,oJ,LY,BB,Dr,takeB,takeC,AfP]
  rw[DC i (by omega)]
  exact j3
theorem Ue (k:Nat) (args:List Value):Bp (k+1) 10261 args=OO (Bp k) L args:=by kernel_rfl
theorem QA (r c k f:Nat) (us:List Nat):AL (FK r c k f us) ((0+0)+0)=some (I (.ofNat r))∧AL (FK r c k f us) ((0+0)+1)=some (I (.ofNat c))∧AL (FK r c k f us) ((0+0)+2)=some (I (.ofNat k))∧AL (FK r c k f us) ((0+0)+3)=some (Sl.v 1 ⟨len us,f,M8 us⟩):=⟨rfl,rfl,rfl,rfl⟩
theorem gV (n f:Nat) {r c k:Nat} {us:List Nat} (hg:(r,c,us)∈CY) (hk1:1≤k) (hk:k≤4):∀ (d:Nat),gT (n+d+4) r c k f us d
 | 0 => fun p q cap co h1 h2 h3 h4 h5 => by
  have hp:=Eb hg
  obtain⟨b0,b1,b2,b3⟩:=QA r c k f us
  have hrc:r*c≤16:=Nat.mul_le_mul hp.r4 hp.c4
  have hq:q.length≤900000:=by omega
  have hl:=Sa n L f (k:=k) hg (x:=p) (by omega) (cb:=cap) hq h4 h5 us.length L 0 (by omega) (by have:=hp.len8;show us.length < 1000000;omega)
  rw[List.drop_zero] at hl
  have key:Bp (n+0+4) 10261 (yM p (FK r c k f us) cap co q)=some (if BI r c us p then O9 p (FK r c k f us) (2*(q.length+1)+bb false 1 0) (q++[p]) else O9 p (FK r c k f us) co q):=by
   rw[Nat.add_zero,Ue]
   show Jv (Bp (n+3)) L p.length cap (p.map I) 0 (FK r c k f us) q.length co (RW q)=_
   unfold Jv
   rw[b0,b1,b3]
   simp only[Ac,BP,Dc,BB,Dr,Ak]
   rw[L6 hp.r4 hp.c4,Eo,decide_eq_true (by rw[show p.length=r*c by omega]),Ak,AV]
   exact hl
  rw[key]
  by_cases hf:BI r c us p=true
  ·refine⟨2*(q.length+1)+bb false 1 0,?_,?_,?_⟩
   ·simp only[ext,List.filter_cons,hf,if_true,List.filter_nil,List.length_append,List.length_cons,List.length_nil]
    show (2*(q.length+1)+0) / 2=_
    omega
   ·show (2*(q.length+1)+0) % 2=0
    omega
   ·simp only[ext,List.filter_cons,hf,if_true,List.filter_nil]
  ·refine⟨co,?_,h5,?_⟩
   ·simp only[ext,List.filter_cons,hf,if_false,List.filter_nil,List.append_nil]
    simpa using h4
   ·simp only[ext,List.filter_cons,hf,if_false,List.filter_nil,List.append_nil]
    simp
 | d + 1 => fun p q cap co h1 h2 h3 h4 h5 => by
  have hp:=Eb hg
  obtain⟨b0,b1,b2,b3⟩:=QA r c k f us
  have hrc:r*c≤16:=Nat.mul_le_mul hp.r4 hp.c4
  have ih:=gV n f hg hk1 hk d
  obtain⟨c2,j1,j2,j3⟩:=V5 (n+d+4) L f ih (p:=p) h1 h2 hrc hk k L 0 q co cap (by omega) (by show k < 1000000;omega) (by rw[Nat.pow_succ,Nat.mul_comm] at h3;exact h3) h4 h5
  rw[←List.range_eq_range'] at j1 j3
  refine⟨c2,j1,j2,?_⟩
  show Bp (n+(d+1)+4) 10261 _=_
  rw[show n+(d+1)+4=(n+d+4)+1 by omega,Ue]
  show Jv (Bp (n+d+4)) L p.length cap (p.map I) 0 (FK r c k f us) q.length co (RW q)=_
  unfold Jv
  rw[b0,b1]
  simp only[Ac,BP,BB,Dr,Ak]
  rw[L6 hp.r4 hp.c4,Eo,decide_eq_false (by intro e;have e:=Int.ofNat.inj e;omega),AA]
  unfold LJ
  rw[b2]
  simp only[Ac,BP,BB,Dr,Ak]
  exact j3
end Go.BkQ
set_option maxRecDepth 100000
set_option maxHeartbeats 4000000
namespace Go.BkQ
open Go Go.Sp Go.BaAM
noncomputable def lJ (B:List Value) (c:Nat) (Q:List (List Int)):Value:=
 .tuple ⟨[.tuple ⟨[]⟩,.agg ⟨[Cv 0 B]⟩,.agg ⟨[oF 5 Q.length c]⟩,.agg ⟨[yL 1 2 3]⟩,EP,.agg ⟨RW Q⟩]⟩
theorem V6 (n M f:Nat) {r c k:Nat} {us:List Nat} {d:Nat} (hA:gT n r c k f us d) (hp:1+d=r*c) (hk:k≤4) :
 ∀ (e w i:Nat) (q:List (List Int)) (co:Nat),i+e=k→e < w→q.length+e*k ^ d≤900000→co / 2=q.length→co % 2=0 →
 ∃ c', c' / 2 = (q ++ ((List.range' i e).flatMap fun c => ext k d [Int.ofNat c]).filter (BI r c us)).length ∧ c' % 2 = 0 ∧
  Kh (Bp n) M w (Sl.mk 0 2 []) (.ofNat k) (.ofNat i) 0 (FK r c k f us) q.length co (RW q)=some (lJ (FK r c k f us) c' (q++((List.range' i e).flatMap fun c=>ext k d [Int.ofNat c]).filter (BI r c us)))
 | e,0,_,_,_,_,h,_,_,_=>by omega
 | 0, w + 1, i, q, co, h1, h2, h3, h4, h5 => by
  refine⟨co,by simpa using h4,h5,?_⟩
  show Jd (Bp n) M (Kh (Bp n) M w) (Sl.mk 0 2 []) (.ofNat k) (.ofNat i) 0 (FK r c k f us) q.length co (RW q)=_
  unfold Jd
  rw[Dr,Ak,Gt (by omega),AA]
  simp only[List.range'_zero,List.flatMap_nil,List.filter_nil,List.append_nil]
  rfl
 | e + 1, w + 1, i, q, co, h1, h2, h3, h4, h5 => by
  have hkd:q.length+k ^ d≤900000:=by rw[Nat.succ_mul] at h3;omega
  obtain⟨c1,g1,g2,g3⟩:=hA [Int.ofNat i] q (2*(0+1)+bb false 1 0) co (by simpa using hp) (by simp) hkd h4 h5
  generalize hQ:q++(ext k d [Int.ofNat i]).filter (BI r c us)=Q1 at g1 g3
  have hQl:Q1.length≤q.length+k ^ d:=by
   rw[←hQ,List.length_append]
   have:=List.length_filter_le (BI r c us) (ext k d [Int.ofNat i])
   rw[ext_size] at this
   omega
  obtain⟨c2,j1,j2,j3⟩:=V6 n M f hA hp hk e w (i+1) Q1 c1 (by omega) (by omega) (by rw[Nat.succ_mul] at h3;omega) g1 g2
  have hQQ:Q1++((List.range' (i+1) e).flatMap fun c=>ext k d [Int.ofNat c]).filter (BI r c us)=q++((List.range' i (e+1)).flatMap fun c=>ext k d [Int.ofNat c]).filter (BI r c us):=by
   rw[←hQ,List.range'_succ,List.flatMap_cons,List.filter_append,List.append_assoc]
  rw[hQQ] at j1 j3
  refine⟨c2,j1,j2,?_⟩
  show Jd (Bp n) M (Kh (Bp n) M w) (Sl.mk 0 2 []) (.ofNat k) (.ofNat i) 0 (FK r c k f us) q.length co (RW q)=_
  unfold Jd
  rw[Dr,Ak,Ha (by omega),Ak]
  rw [show (an (Dp (Nat.beq (Sl.fl (Sl.mk 0 2 [])) 1) (Nat.beq (Sl.fl (Sl.mk 0 2 [])) 2)) (EQ ((Sl.n (Sl.mk 0 2 [])) + 1) 8)) = true from rfl, Ak, AfR, Ak, AfQ h4, Ak,
   show (Au Ah (Br (Sl.cs (Sl.mk 0 2 [])) ([(.int .i64 (Int.ofNat i))]:List Value)))=true from rfl,Ak,Ak]
  have e1:Bp n 10261 [(.slice (some ⟨1,0,some 1⟩) ((Sl.n (Sl.mk 0 2 []))+1) (2*((Sl.n (Sl.mk 0 2 []))+1)+bb false 1 0)),(.pointer (some ⟨2,0,none⟩)),(.pointer (some ⟨3,0,none⟩)),(.pointer (some ⟨4,0,none⟩)),(.agg ⟨(Br (Sl.cs (Sl.mk 0 2 [])) ([(.int .i64 (Int.ofNat i))]:List Value))⟩),(.agg ⟨[(Cv 0 (FK r c k f us))]⟩),(.agg ⟨[(.slice (some ⟨5,0,some 1⟩) q.length co)]⟩),(.agg ⟨[(.func (.func 26) ⟨[]⟩ ⟨[(.pointer (some ⟨2,0,none⟩)),(.pointer (some ⟨3,0,none⟩)),(.pointer (some ⟨4,0,none⟩))]⟩)]⟩),(.agg ⟨RW q⟩)]=some (O9 [Int.ofNat i] (FK r c k f us) c1 Q1):=g3
  rw[e1,Ac]
  unfold O9
  simp only[FW,Ac,Dj,EG,Qz,Ak,RL,WI,oG,gU,oH,oI,oJ,LY,BB,Dr]
  rw[DC i (by omega)]
  exact j3
theorem Wv (k:Nat) (args:List Value):Bp (k+1) 10260 args=OM (Bp k) L args:=by kernel_rfl
theorem p6 (k:Nat) (args:List Value):Bp (k+1) 6 args=m6 (Bp k) L args:=by kernel_rfl
noncomputable def MF (r c k:Nat) (us:List Nat):List (List Int):=(ext k (r*c) []).filter (BI r c us)
theorem yN (n f:Nat) {r c k:Nat} {us:List Nat} (hg:(r,c,us)∈CY) (hk1:1≤k) (hk:k≤4) (hs:k ^ (r*c)≤4096):∃ c',c' / 2=(MF r c k us).length∧c' % 2=0 ∧
 Bp (n+r*c+4) 10260 [Sl.v 1 (Sl.mk 0 2 []),(.pointer (some ⟨1,0,none⟩)),(.pointer (some ⟨2,0,none⟩)),(.pointer (some ⟨3,0,none⟩)),(.agg ⟨[(Cv 0 (FK r c k f us))]⟩),(.agg ⟨[(.slice (some ⟨4,0,some 1⟩) 0 0)]⟩),(.agg ⟨[yL 1 2 3]⟩),(.agg ⟨([]:List Value)⟩)]=some (lJ (FK r c k f us) c' (MF r c k us)):=by
 have hp:=Eb hg
 obtain⟨b0,b1,b2,b3⟩:=QA r c k f us
 have hN:1≤r*c:=Nat.mul_pos hp.r1 hp.c1
 obtain⟨d,hd⟩:∃ d,r*c=d+1:=⟨r*c - 1,by omega⟩
 have hA:=gV n f hg hk1 hk d
 have hkk:k*k ^ d≤4096:=by rw[hd] at hs;rw[Nat.mul_comm,←Nat.pow_succ];exact hs
 obtain⟨c',j1,j2,j3⟩:=V6 (n+d+4) L f hA (by omega) hk k L 0 [] 0 (by omega) (by show k < 1000000;omega) (by simp;omega) rfl rfl
 rw[←List.range_eq_range',List.nil_append] at j1 j3
 have hall:((List.range k).flatMap fun c=>ext k d [Int.ofNat c]).filter (BI r c us)=MF r c k us:=by
  unfold MF;rw[hd];rfl
 rw[hall] at j1 j3
 refine⟨c',j1,j2,?_⟩
 rw[show n+r*c+4=(n+d+4)+1 by omega,Wv]
 show LZ (Bp (n+d+4)) L (Sl.mk 0 2 []) 0 (FK r c k f us) 0 0 []=_
 unfold LZ
 rw[b0,b1]
 simp only[Ac,BP]
 rw[show Au Ah ([]:List Value)=true from rfl,Ak,L6 hp.r4 hp.c4,Eo,decide_eq_false (by intro e;have e:=Int.ofNat.inj e;omega),AA]
 unfold K9
 rw[b2]
 simp only[Ac,BP]
 rw[show Au Ah ([]:List Value)=true from rfl,Ak]
 exact j3
end Go.BkQ
set_option maxRecDepth 100000
set_option maxHeartbeats 400000
namespace Go.BkQ
open Go Go.Sp Go.BaAM
theorem AfT (n c:Nat):OJ 5 0 1 (oF 5 n c)=some ⟨n,c⟩:=rfl
theorem lK:O6 26 0 (yL 1 2 3)=some [.pointer (some ⟨1,0,none⟩),.pointer (some ⟨2,0,none⟩),.pointer (some ⟨3,0,none⟩)]:=rfl
theorem yO:FD (.pointer (some ⟨1,0,none⟩)) 1 0=true:=rfl
theorem yP:FD (.pointer (some ⟨2,0,none⟩)) 2 0=true:=rfl
theorem yQ:FD (.pointer (some ⟨3,0,none⟩)) 3 0=true:=rfl
noncomputable def yR (e:Int):Value:=.tuple ⟨[Sl.v 1 (Sl.mk 0 2 []),I e]⟩
theorem lL (n M f:Nat) {r c k:Nat} {us:List Nat} (hg:(r,c,us)∈CY) (hk1:1≤k) (hk:k≤4) :
 Wp (Bp (n+r*c+4)) M (.ofNat (k ^ (r*c))) 0 (FK r c k f us)=some (if k ^ (r*c)≤4096 then .tuple ⟨[SR (MF r c k us),I 0]⟩ else yR 16):=by
 unfold Wp
 by_cases hs:k ^ (r*c)≤4096
 ·obtain⟨c',j1,j2,j3⟩:=yN n f hg hk1 hk hs
  rw[if_pos hs,show (4096:Int)=Int.ofNat 4096 from rfl,Gt (by omega),AA]
  rw[show (Dp (Nat.ble 2 0) (MQ ([]:List Value)))=true from rfl,Ak,show Au Ah ([]:List Value)=true from rfl,Ak]
  have e1:Bp (n+r*c+4) 10260 [(Sl.v 1 (Sl.mk 0 2 [])),(.pointer (some ⟨1,0,none⟩)),(.pointer (some ⟨2,0,none⟩)),(.pointer (some ⟨3,0,none⟩)),(.agg ⟨[(Cv 0 (FK r c k f us))]⟩),(.agg ⟨[(.slice (some ⟨4,0,some 1⟩) 0 0)]⟩),(.agg ⟨[(.func (.func 26) ⟨[]⟩ ⟨[(.pointer (some ⟨1,0,none⟩)),(.pointer (some ⟨2,0,none⟩)),(.pointer (some ⟨3,0,none⟩))]⟩)]⟩),(.agg ⟨([]:List Value)⟩)]=some (lJ (FK r c k f us) c' (MF r c k us)):=j3
  rw[e1,Ac]
  unfold lJ
  simp only[FW,Ac,Dj,EG,Qz,Ak,RL,WI,AfT,lK,yO,yP,yQ,LY,Dr]
  have e2:Aq ((MF r c k us).length*1) (Am 0 (RW (MF r c k us)))=RW (MF r c k us):=by
   have:=gI (MF r c k us) []
   rwa [List.append_nil] at this
  rw[e2,Dr,Un,show Nat.ble (0+(MF r c k us).length*1) (MF r c k us).length=true from Nat.ble_eq_true_of_le (by omega),OH,Ak]
  rfl
 ·rw[if_neg hs,show (4096:Int)=Int.ofNat 4096 from rfl,Ha (by omega),Ak]
  rfl
theorem Yb {k a:Nat} (hk:k≤4) (ha:a≤16):k ^ a < 9223372036854775807:=by
 have h1:k ^ a≤4 ^ a:=Nat.pow_le_pow_left hk a
 have h2:4 ^ a≤4 ^ 16:=Nat.pow_le_pow_right (by omega) ha
 have h3:(4:Nat) ^ 16 < 9223372036854775807:=by decide
 omega
theorem Sb (n M f:Nat) {r c k:Nat} {us:List Nat} (hk:k≤4) (hrc:r*c≤16):∀ (d w i:Nat),i+d=r*c→d < w →
 Yh (Bp n) M w (.ofNat (k ^ i)) (.ofNat (r*c)) (.ofNat i) 0 (FK r c k f us)=Wp (Bp n) M (.ofNat (k ^ (r*c))) 0 (FK r c k f us)
 | d,0,_,_,h=>by omega
 | 0, w + 1, i, h1, h2 => by
  show Wq (Bp n) M (Yh (Bp n) M w) (.ofNat (k ^ i)) (.ofNat (r*c)) (.ofNat i) 0 (FK r c k f us)=_
  unfold Wq
  rw[Gt (by omega),AA,show i=r*c by omega]
 | d + 1, w + 1, i, h1, h2 => by
  obtain⟨b0,b1,b2,b3⟩:=QA r c k f us
  show Wq (Bp n) M (Yh (Bp n) M w) (.ofNat (k ^ i)) (.ofNat (r*c)) (.ofNat i) 0 (FK r c k f us)=_
  unfold Wq
  rw[Ha (by omega),Ak,b2]
  simp only[Ac,BP]
  rw[mulN (by have:=Yb hk (a:=i+1) (by omega);rw[Nat.pow_succ] at this;exact this),DC i (by omega),←Nat.pow_succ]
  exact Sb n M f hk hrc d w (i+1) (by omega) (by omega)
theorem yS (n f:Nat) {r c k:Nat} {us:List Nat} (hg:(r,c,us)∈CY) (hk:k=1∨k=2∨k=3∨k=4) :
 Bp (n+r*c+7) 6 [Ir r c k f us]=some (if k ^ (r*c)≤4096 then .tuple ⟨[SR (MF r c k us),I 0]⟩ else yR 16):=by
 have hp:=Eb hg
 have hrc:r*c≤16:=Nat.mul_le_mul hp.r4 hp.c4
 obtain⟨b0,b1,b2,b3⟩:=QA r c k f us
 rw[p6]
 show zD (Bp (n+r*c+6)) L (.ofNat r) (.ofNat c) (.ofNat k) ⟨len us,f,M8 us⟩=_
 unfold zD
 rw[show (Value.agg ⟨[(.int .i64 (Int.ofNat r)),(.int .i64 (Int.ofNat c)),(.int .i64 (Int.ofNat k)),(Sl.v 1 ⟨len us,f,M8 us⟩)]⟩)=Ir r c k f us from rfl,kV (n+r*c) f hk hg]
 simp only[Ac,FW,Dj,EG]
 rw[show Pv (Yp r c k f us)=some ⟨0,FK r c k f us⟩ from rfl,NA,Ak,Ac]
 simp only[BP,Ac]
 simp only[show (nt (Bd (0:Int) (0:Int)))=false from rfl,AA,b0,b1,BP,Ac]
 rw[L6 hp.r4 hp.c4]
 have h0:=Sb (n+r*c+6) L f (c:=c) (us:=us) (by omega:k≤4) hrc (r*c) L 0 (by omega) (by show r*c < 1000000;omega)
 rw[Nat.pow_zero] at h0
 have h:=lL (n+2) L f hg (k:=k) (by omega) (by omega)
 rw[show n+2+r*c+4=n+r*c+6 by omega] at h
 exact h0.trans h
end Go.BkQ
set_option maxRecDepth 100000
set_option maxHeartbeats 4000000
namespace Go.BkQ
open Go Go.Sp Go.BaAM
noncomputable def sP (f:Nat) (us:List Nat):Sl:=⟨len us,f,M8 us⟩
def zP:Nat→Int
 | 0=>-1
 | j+1=>.ofNat j
theorem oK (m:Nat) (h:m < 1000000):Aj .i64 (Int.sub (Int.ofNat m) 1)=zP m:=by
 cases m with
 | zero=>rfl
 | succ j=>exact gH j (by omega)
theorem ZA {r c:Nat} {us:List Nat} {x:List Int} (hg:(r,c,us)∈CY) (hx:x.length=r*c):decide (K4 x (Fh r c x us)=x)=BI r c us x:=by
 have he:O8 (r*c) (x::Fh r c x us):=fun y hy=>by
  rcases List.mem_cons.1 hy with rfl | hy
  ·exact hx
  ·exact Nf hg (fun t h=>h) y hy
 unfold BI
 by_cases h:K4 x (Fh r c x us)=x
 ·rw[decide_eq_true h]
  symm
  rw[List.all_eq_true]
  intro y hy
  have:=Uq he y (List.mem_cons_of_mem _ hy)
  rw[h] at this
  unfold yJ at this
  rw[this];rfl
 ·rw[decide_eq_false h]
  symm
  rw[List.all_eq_false]
  have hm:=OG (r:=Fh r c x us) (b:=x)
  rcases List.mem_cons.1 hm with h1 | h1
  ·exact absurd h1 h
  ·refine⟨_,h1,?_⟩
   have hle:=Uq he x (List.mem_cons_self)
   have:=Pg (a:=x) (b:=K4 x (Fh r c x us)) (by rw[hx,Nf hg (fun t h=>h) _ h1]) (fun e=>h e.symm) hle
   rw[this];simp
abbrev IhO:=Nat→Nat→Nat→Nat→Int→Int→Int→Sl→List Value→List Value→Option Value
theorem gW (n M f w:Nat) {r c k N:Nat} {us:List Nat} (hg:(r,c,us)∈CY) {x:List Int} (hN:N=x.length) (hx:x.length=r*c) {q:List (List Int)} {co cb:Nat} (hq:q.length≤800000) (hc:co / 2=q.length) (hc2:co % 2=0) :
 ∃ co', co' / 2 = (q ++ [x].filter (BI r c us)).length ∧ co' % 2 = 0 ∧
  KZ (Bp (n+4)) M (w+1) q.length co N cb (.ofNat r) (.ofNat c) (.ofNat k) (sP f us) (RW q) (x.map I) =
  M9 (Bp (n+4)) M (KZ (Bp (n+4)) M w) M (q++[x].filter (BI r c us)).length co' N cb (zP N) (.ofNat r) (.ofNat c) (.ofNat k) (sP f us) (RW (q++[x].filter (BI r c us))) (x.map I):=by
 subst hN
 have hp:=Eb hg
 have hrc:r*c≤16:=Nat.mul_le_mul hp.r4 hp.c4
 have hN1:1≤r*c:=Nat.mul_pos hp.r1 hp.c1
 have hx4:x.length < 900000:=by omega
 have h0:Nat.beq x.length 0=false:=by
  cases h:Nat.beq x.length 0 with
  | false=>rfl
  | true=>have:=Nat.eq_of_beq_eq_true h;omega
 have e3:EQ (0+x.length) 8=true:=Nat.ble_eq_true_of_le (by omega)
 have e5:Nat.ble (0+(0+x.length)*1) (len (x.map I))=true:=by rw[Nat.zero_add,Nat.zero_add];exact Ya x
 have hmin:(K4 x (Fh r c x us)).length=x.length:=by
  rcases List.mem_cons.1 (OG (r:=Fh r c x us) (b:=x)) with h1 | h1
  ·rw[h1]
  ·rw[Nf hg (fun t h=>h) _ h1,hx]
 have hb : ∀ ih, bW (Bp (n + 4)) M ih q.length co x.length cb (.ofNat r) (.ofNat c) (.ofNat k) (sP f us) (RW q) (x.map I) =
  (bb (BI r c us x) (Ub (Bp (n+4)) M ih (q.length+1) (2*(q.length+1)+bb false 1 0) x.length cb (.ofNat r) (.ofNat c) (.ofNat k) (sP f us) (RW (q++[x])) (x.map I)) (Ub (Bp (n+4)) M ih q.length co x.length cb (.ofNat r) (.ofNat c) (.ofNat k) (sP f us) (RW q) (x.map I))):=fun ih=>by
  unfold bW
  simp only[Qv,BB,Zz,OH,Ak]
  rw[show (Value.agg ⟨[(.int .i64 (Int.ofNat r)),(.int .i64 (Int.ofNat c)),(.int .i64 (Int.ofNat k)),(Sl.v 1 (sP f us))]⟩)=Ir r c k f us from rfl,show (Sl.v 1 (Sl.mk x.length 0 (x.map I)))=S 0 x from rfl,WK n f 0 hg hx]
  simp only[Ac,show ∀ y,Bj 1 (S 0 y)=some (sl 0 y) from fun _=>rfl,I4,GX,WM,Qv,BB,Zz,OH,Ak]
  rw[show (Sl.v 1 (Sl.mk (K4 x (Fh r c x us)).length 0 ((K4 x (Fh r c x us)).map I)))=S 0 (K4 x (Fh r c x us)) from rfl,YC (n+3) 0 0 hmin (by omega)]
  simp only[Ac,BU,BB,Dr,Ak,h0,AA,e3,takeC,WJ,e5,OH,oD (show q.length≤900000 by omega) hc hc2]
  rw[ZA hg hx,show (Sl.v 1 (Sl.mk (0+x.length) 0 (x.map I)))=Sl.v 1 (sl 0 x) from by rw[Nat.zero_add];rfl,nY,Dr,Ak]
 have hm : ∀ ih (m co' : Nat) (Q : List (List Int)), Ub (Bp (n + 4)) M ih m co' x.length cb (.ofNat r) (.ofNat c) (.ofNat k) (sP f us) (RW Q) (x.map I) =
  M9 (Bp (n+4)) M ih M m co' x.length cb (zP x.length) (.ofNat r) (.ofNat c) (.ofNat k) (sP f us) (RW Q) (x.map I):=fun ih m co' Q=>by
  unfold Ub
  rw[Dr,Ak,BB,Ak,oK _ (by omega)]
 by_cases hf:BI r c us x=true
 ·refine⟨2*(q.length+1)+bb false 1 0,?_,?_,?_⟩
  ·simp only[List.filter_cons,hf,if_true,List.filter_nil,List.length_append,List.length_cons,List.length_nil]
   show (2*(q.length+1)+0) / 2=_
   omega
  ·show (2*(q.length+1)+0) % 2=0
   omega
  ·refine(hb (KZ (Bp (n+4)) M w)).trans ?_
   rw[hf,Ak,hm]
   simp only[List.filter_cons,hf,if_true,List.filter_nil,List.length_append,List.length_cons,List.length_nil]
 ·have hf':BI r c us x=false:=by simpa using hf
  refine⟨co,?_,hc2,?_⟩
  ·simp only[List.filter_cons,hf',List.filter_nil]
   simpa using hc
  ·refine(hb (KZ (Bp (n+4)) M w)).trans ?_
   rw[hf',AA,hm]
   simp[List.filter_cons,hf']
end Go.BkQ
set_option maxRecDepth 100000
set_option maxHeartbeats 4000000
namespace Go.BkQ
open Go Go.Sp Go.BaAM
theorem yT (p:List Int) (z:Int) (t:List Int):AL ((p++z::t).map I) (0+p.length*1)=some (I z):=by
 rw[Nat.zero_add,O1 (by simp:p.length < (p++z::t).length)]
 simp
theorem AfU (p:List Int) (z y:Int) (t:List Int):BM ([(.int .i64 y)]:List Value) (0+p.length*1) ((p++z::t).map I)=(p++y::t).map I:=by
 rw[AfH _ _ _ (by simp)]
 congr 1
 simp
theorem AfV (p:List Int) (z:Int) (t:List Int):an (Nat.ble ((0+p.length*1)+1) (len ((p++z::t).map I))) true=true:=by
 rw[AV,List.length_map,show Nat.ble ((0+p.length*1)+1) (p++z::t).length=true from Nat.ble_eq_true_of_le (by simp)];rfl
theorem lM (p:List Int) (z:Int) (t:List Int) {N:Nat} (hN:N=(p++z::t).length):an (Nat.blt p.length N) true=true:=by
 subst hN
 exact LX (by simp)
theorem WN (pu:Af) (M:Nat) (ih:IhO) (v:Nat) {N:Nat} (p t:List Int) {k z:Nat} (hz:z+1=k) (hk:k≤4) (hN:N=(p++Int.ofNat z::t).length) (hp:p.length < 100) {n co cb:Nat} {R C:Int} {s:Sl} {q:List (List Int)} :
 M9 pu M ih (v+1) n co N cb (.ofNat p.length) R C (.ofNat k) s (RW q) ((p++Int.ofNat z::t).map I)=M9 pu M ih v n co N cb (zP p.length) R C (.ofNat k) s (RW q) ((p++0::t).map I):=by
 show Ua pu M ih (M9 pu M ih v) n co N cb (.ofNat p.length) R C (.ofNat k) s (RW q) ((p++Int.ofNat z::t).map I)=_
 unfold Ua
 have e0:nt (AY (Int.ofNat p.length) (0:Int))=true:=by rw[show (0:Int)=Int.ofNat 0 from rfl,Gt (by omega)];rfl
 have e1:Bd (Int.ofNat z) (Aj .i64 (Int.sub (.ofNat k) 1))=true:=by
  rw[←hz,gH z (by omega),Eo];exact decide_eq_true rfl
 simp only[e0,Ak,Cx,Ac,lM p _ t hN,yT,BP,Dr,BB,e1]
 unfold Ws
 simp only[Ak,Dr,BB,Cx,Ac,lM p _ t hN,AfV,AfU]
 rw[oK _ (by omega)]
theorem ZB (pu:Af) (M:Nat) (ih:IhO) (v:Nat) {N:Nat} (p t:List Int) {k z:Nat} (hz:z+1 < k) (hk:k≤4) (hN:N=(p++Int.ofNat z::t).length) (hp:p.length < 100) {n co cb:Nat} {R C:Int} {s:Sl} {q:List (List Int)} :
 M9 pu M ih (v+1) n co N cb (.ofNat p.length) R C (.ofNat k) s (RW q) ((p++Int.ofNat z::t).map I)=ih n co N cb R C (.ofNat k) s (RW q) ((p++Int.ofNat (z+1)::t).map I):=by
 show Ua pu M ih (M9 pu M ih v) n co N cb (.ofNat p.length) R C (.ofNat k) s (RW q) ((p++Int.ofNat z::t).map I)=_
 unfold Ua
 have e9:AY (Int.ofNat p.length) (0:Int)=false:=by rw[show (0:Int)=Int.ofNat 0 from rfl,Gt (by omega)]
 have e0:nt (AY (Int.ofNat p.length) (0:Int))=true:=by rw[e9];rfl
 have e1:Bd (Int.ofNat z) (Aj .i64 (Int.sub (.ofNat k) 1))=false:=by
  obtain⟨j,rfl⟩:∃ j,k=j+1:=⟨k - 1,by omega⟩
  rw[gH j (by omega),Eo];exact decide_eq_false (fun e=>by have e:=Int.ofNat.inj e;omega)
 simp only[e0,Ak,Cx,Ac,lM p _ t hN,yT,BP,Dr,BB,e1]
 unfold Ws
 simp only[AA,Ak,Dr,BB]
 unfold bV
 simp only[e9,AA,Ak,Dr,BB,Cx,Ac,lM p _ t hN,yT,BP,AfV]
 rw[DC z (by omega),AfU,BB,Ak]
theorem gX (pu:Af) (M:Nat) (ih:IhO) (v:Nat) {N:Nat} {x:List Int} {co cb:Nat} {R C K:Int} {s:Sl} {q:List (List Int)} :
 M9 pu M ih (v+1) q.length co N cb (zP 0) R C K s (RW q) (x.map I)=some (.tuple ⟨[SR q,I 0]⟩):=by
 show Ua pu M ih (M9 pu M ih v) q.length co N cb (-1) R C K s (RW q) (x.map I)=_
 unfold Ua
 have e9:AY (-1) (0:Int)=true:=rfl
 have e0:nt (AY (-1) (0:Int))=false:=rfl
 simp only[e0,AA,Ak,Dr,BB]
 unfold Ws
 simp only[AA,Ak,Dr,BB]
 unfold bV
 have e2:Aq (q.length*1) (Am 0 (RW q))=RW q:=by
  have:=gI q []
  rwa [List.append_nil] at this
 simp only[e9,Ak,Dr,BB,e2]
 rw[Un,show Nat.ble (0+q.length*1) q.length=true from Nat.ble_eq_true_of_le (by omega),OH,Ak]
 rfl
def oL (n M f r c k N:Nat) (us:List Nat) (d:Nat):Prop:=∀ (p:List Int) (q:List (List Int)) (co cb w v:Nat),p.length+d=r*c→v+d=M→q.length+k ^ d≤800000→co / 2=q.length→co % 2=0 →
 ∃ co', co' / 2 = (q ++ (ext k d p).filter (BI r c us)).length ∧ co' % 2 = 0 ∧
  KZ (Bp (n+4)) M (w+k ^ d) q.length co N cb (.ofNat r) (.ofNat c) (.ofNat k) (sP f us) (RW q) ((p++List.replicate d 0).map I) =
  M9 (Bp (n+4)) M (KZ (Bp (n+4)) M w) v (q++(ext k d p).filter (BI r c us)).length co' N cb (zP p.length) (.ofNat r) (.ofNat c) (.ofNat k) (sP f us) (RW (q++(ext k d p).filter (BI r c us))) ((p++List.replicate d 0).map I)
theorem QB (n M f:Nat) {r c k N:Nat} {us:List Nat} (hrc:r*c≤16) (hk:k≤4) (hN:N=r*c) {d:Nat} (hR:oL n M f r c k N us d) {p:List Int} (hp:p.length+(d+1)=r*c) :
 ∀ (e i:Nat) (q:List (List Int)) (co cb w v:Nat),i+(e+1)=k→v+(d+1)=M→q.length+(e+1)*k ^ d≤800000→co / 2=q.length→co % 2=0 →
 ∃ co', co' / 2 = (q ++ ((List.range' i (e + 1)).flatMap fun c => ext k d (p ++ [Int.ofNat c])).filter (BI r c us)).length ∧ co' % 2 = 0 ∧
  KZ (Bp (n+4)) M (w+(e+1)*k ^ d) q.length co N cb (.ofNat r) (.ofNat c) (.ofNat k) (sP f us) (RW q) ((p++Int.ofNat i::List.replicate d 0).map I) =
  M9 (Bp (n+4)) M (KZ (Bp (n+4)) M w) v (q++((List.range' i (e+1)).flatMap fun c=>ext k d (p++[Int.ofNat c])).filter (BI r c us)).length co' N cb (zP p.length) (.ofNat r) (.ofNat c) (.ofNat k) (sP f us) (RW (q++((List.range' i (e+1)).flatMap fun c=>ext k d (p++[Int.ofNat c])).filter (BI r c us))) ((p++0::List.replicate d 0).map I)
 | e, i, q, co, cb, w, v, h1, hv, h3, h4, h5 => by
  have hkd:q.length+k ^ d≤800000:=by rw[Nat.succ_mul] at h3;omega
  have happ:∀ z:Int,(p++[z])++List.replicate d 0=p++z::List.replicate d 0:=fun z=>by rw[List.append_assoc];rfl
  have hlen:∀ z:Int,N=(p++z::List.replicate d 0).length:=fun z=>by rw[hN];simp;omega
  obtain⟨c1,g1,g2,g3⟩:=hR (p++[Int.ofNat i]) q co cb (w+e*k ^ d) (v+1) (by simp;omega) (by omega) hkd h4 h5
  rw[happ,show w+e*k ^ d+k ^ d=w+(e+1)*k ^ d by rw[Nat.succ_mul];omega,show zP (p++[Int.ofNat i]).length=Int.ofNat p.length by rw[List.length_append];rfl] at g3
  generalize hQ:q++(ext k d (p++[Int.ofNat i])).filter (BI r c us)=Q1 at g1 g3
  have hQl:Q1.length≤q.length+k ^ d:=by
   rw[←hQ,List.length_append]
   have:=List.length_filter_le (BI r c us) (ext k d (p++[Int.ofNat i]))
   rw[ext_size] at this
   omega
  cases e with
  | zero =>
   have hQQ:Q1=q++((List.range' i (0+1)).flatMap fun c=>ext k d (p++[Int.ofNat c])).filter (BI r c us):=by
    rw[←hQ];simp
   rw[←hQQ]
   refine⟨c1,g1,g2,g3.trans ?_⟩
   rw[Nat.zero_mul,Nat.add_zero]
   exact WN (Bp (n+4)) M _ v p _ (by omega) hk (hlen _) (by omega)
  | succ e =>
   obtain⟨c2,j1,j2,j3⟩:=QB n M f hrc hk hN hR hp e (i+1) Q1 c1 cb w v (by omega) hv (by rw[Nat.succ_mul] at h3;omega) g1 g2
   have hQQ:Q1++((List.range' (i+1) (e+1)).flatMap fun c=>ext k d (p++[Int.ofNat c])).filter (BI r c us)=q++((List.range' i (e+1+1)).flatMap fun c=>ext k d (p++[Int.ofNat c])).filter (BI r c us):=by
    rw[←hQ,show List.range' i (e+1+1)=i::List.range' (i+1) (e+1) from List.range'_succ,List.flatMap_cons,List.filter_append,List.append_assoc]
   rw[hQQ] at j1 j3
   refine⟨c2,j1,j2,g3.trans (Eq.trans ?_ j3)⟩
   exact ZB (Bp (n+4)) M _ v p _ (by omega) hk (hlen _) (by omega)
theorem gY (n M f:Nat) {r c k N:Nat} {us:List Nat} (hg:(r,c,us)∈CY) (hk1:1≤k) (hk:k≤4) (hN:N=r*c):∀ d,oL n M f r c k N us d
 | 0 => fun p q co cb w v h1 h2 h3 h4 h5 => by
  obtain⟨co',j1,j2,j3⟩:=gW n M f w (k:=k) hg (x:=p) (N:=N) (by omega) (by omega) (cb:=cb) (by omega) h4 h5
  refine⟨co',j1,j2,?_⟩
  rw[show p++List.replicate 0 (0:Int)=p by simp,Nat.pow_zero,show v=M by omega,show p.length=N by omega]
  exact j3
 | d + 1 => fun p q co cb w v h1 h2 h3 h4 h5 => by
  have hp:=Eb hg
  have hrc:r*c≤16:=Nat.mul_le_mul hp.r4 hp.c4
  obtain⟨k',rfl⟩:∃ k',k=k'+1:=⟨k - 1,by omega⟩
  obtain⟨co',j1,j2,j3⟩:=QB n M f hrc hk hN (gY n M f hg hk1 hk hN d) (p:=p) h1 k' 0 q co cb w v (by omega) h2 (by rw[Nat.pow_succ,Nat.mul_comm] at h3;exact h3) h4 h5
  rw[←List.range_eq_range'] at j1 j3
  refine⟨co',j1,j2,?_⟩
  rw[Nat.mul_comm,←Nat.pow_succ] at j3
  exact j3
end Go.BkQ
set_option maxRecDepth 100000
set_option maxHeartbeats 4000000
namespace Go.BkQ
open Go Go.Sp Go.BaAM
theorem p31 (k:Nat) (args:List Value):Bp (k+1) 31 args=m31 (Bp k) L args:=by kernel_rfl
theorem p7 (k:Nat) (args:List Value):Bp (k+1) 7 args=m7 (Bp k) L args:=by kernel_rfl
theorem V8 (pu:Af) (M:Nat) {k N:Nat} (hk:k≤4) (hN:N≤16):∀ (d w i:Nat),i+d=N→d < w →
 RO pu M w (.ofNat k) (.ofNat N) (.ofNat (k ^ i)) (.ofNat i)=some (I (.ofNat (k ^ N)))
 | d,0,_,_,h=>by omega
 | 0, w + 1, i, h1, h2 => by
  show Ps pu M (RO pu M w) (.ofNat k) (.ofNat N) (.ofNat (k ^ i)) (.ofNat i)=_
  unfold Ps
  rw[Gt (by omega),AA,show i=N by omega]
  rfl
 | d + 1, w + 1, i, h1, h2 => by
  show Ps pu M (RO pu M w) (.ofNat k) (.ofNat N) (.ofNat (k ^ i)) (.ofNat i)=_
  unfold Ps
  rw[Ha (by omega),Ak,mulN (by have:=Yb hk (a:=i+1) (by omega);rw[Nat.pow_succ] at this;exact this),DC i (by omega),←Nat.pow_succ]
  exact V8 pu M hk hN d w (i+1) (by omega) (by omega)
theorem gZ (n:Nat) {k N:Nat} (hk:k≤4) (hN:N≤16):Bp (n+1) 31 [I (.ofNat k),I (.ofNat N)]=some (I (.ofNat (k ^ N))):=by
 rw[p31]
 have h:=V8 (Bp n) L hk hN N L 0 (by omega) (by show N < 1000000;omega)
 rw[Nat.pow_zero] at h
 exact h
theorem iB (n f:Nat) {r c k:Nat} {us:List Nat} (hg:(r,c,us)∈CY) (hk1:1≤k) (hk:k≤4) (hs:k ^ (r*c)≤4096) :
 Ud (Bp (n+4)) L (0:Int) (.ofNat r) (.ofNat c) (.ofNat k) (sP f us)=some (.tuple ⟨[SR (MF r c k us),I 0]⟩):=by
 have hp:=Eb hg
 have hrc:r*c≤16:=Nat.mul_le_mul hp.r4 hp.c4
 have hL:L=1000000:=rfl
 obtain⟨co',j1,j2,j3⟩:=gY n L f hg hk1 hk (N:=r*c) rfl (r*c) [] [] 0 (2*(r*c)+bb true 1 0) (L - k ^ (r*c)) (L - r*c) (by simp) (by rw[hL];omega) (by simp;omega) rfl rfl
 rw[List.nil_append,List.nil_append,show L - k ^ (r*c)+k ^ (r*c)=L from by rw[hL];omega] at j3
 unfold Ud
 rw[show (nt (Bd (0:Int) (0:Int)))=false from rfl,AA,L6 hp.r4 hp.c4,Cx,Ac]
 rw[show (an (Nat.ble (r*c) (r*c)) (an (Nat.ble ((r*c)*8) 1099511627776) (an (Nat.ble (r*c) 1099511627776) true)))=true from by
  rw[Nat.ble_eq_true_of_le (Nat.le_refl _),Nat.ble_eq_true_of_le (show (r*c)*8≤1099511627776 by omega),Nat.ble_eq_true_of_le (show r*c≤1099511627776 by omega)];rfl,Ak,nX,BB,Ak]
 refine(show KZ (Bp (n+4)) L L 0 0 (r*c) (2*(r*c)+bb true 1 0) (.ofNat r) (.ofNat c) (.ofNat k) (sP f us) (RW []) ((List.replicate (r*c) (0:Int)).map I)=_ from j3.trans ?_)
 rw[show L - r*c=(999999 - r*c)+1 from by rw[hL];omega]
 exact gX _ _ _ _
theorem yU (n f:Nat) {r c k:Nat} {us:List Nat} (hg:(r,c,us)∈CY) (hk:k=1∨k=2∨k=3∨k=4) (hE:Iy (.ofNat r) (.ofNat c) (.ofNat k) (us.map Int.ofNat)=0) (hl:us.length≤100) :
 Bp (n+7) 7 [Ir r c k f us]=some (if k ^ (r*c)≤4096 then .tuple ⟨[SR (MF r c k us),I 0]⟩ else yR 16):=by
 have hp:=Eb hg
 have hrc:r*c≤16:=Nat.mul_le_mul hp.r4 hp.c4
 have hc:=VM n f (R:=.ofNat r) (C:=.ofNat c) (K:=.ofNat k) (ts:=us.map Int.ofNat) (by simpa using hl)
 rw[hE,Qw] at hc
 rw[p7]
 show zF (Bp (n+6)) L (.ofNat r) (.ofNat c) (.ofNat k) (sP f us)=_
 unfold zF
 rw [show (Value.agg ⟨[(.int .i64 (Int.ofNat r)), (.int .i64 (Int.ofNat c)), (.int .i64 (Int.ofNat k)), (Sl.v 1 (sP f us))]⟩) = Ir r c k f us from rfl, hc, Ac, BP, Ac, show Bd (0 : Int) (0 : Int) = true from rfl, Ak, L6 hp.r4 hp.c4,
  gZ (n+5) (by omega) hrc,Ac,BP,Ac]
 unfold Yi
 by_cases hs:k ^ (r*c)≤4096
 ·rw[if_pos hs,show (4096:Int)=Int.ofNat 4096 from rfl,Gt (by omega),AA]
  exact iB (n+2) f hg (by omega) (by omega) hs
 ·rw[if_neg hs,show (4096:Int)=Int.ofNat 4096 from rfl,Ha (by omega),Ak]
  unfold Ud
  rw[show (nt (Bd (16:Int) (0:Int)))=true from rfl,Ak]
  rfl
theorem allLaw (n f:Nat) {R C K:Int} {ts:List Int}:Bp (n+24) 3 [.agg ⟨[I R,I C,I K,S f ts]⟩]=some (.bool true):=by
 have e:Bp (n+24) 3 [.agg ⟨[I R,I C,I K,S f ts]⟩]=m3_ (Bp (n+23)) L R C K (sl f ts):=by kernel_rfl
 rw[e]
 have e1:Bp (n+23) 10040 [(.agg ⟨[I R,I C,I K,(Sl.v 1 (sl f ts))]⟩),(Sl.v 1 (Sl.mk 0 2 [])),(Sl.v 1 (Sl.mk 0 2 []))]=some (.tuple ⟨[.bool (decide (30 < ts.length))]⟩):=by
  rw[yK]
  show bb (AY (.ofNat 30) (.ofNat ts.length)) (some (Value.tuple ⟨[(.bool true)]⟩)) (bb (AY (60:Int) (.ofNat 0)) (some (Value.tuple ⟨[(.bool true)]⟩)) (some (Value.tuple ⟨[(.bool (AY (60:Int) (.ofNat 0)))]⟩)))=_
  rw[Gq]
  by_cases h1:30 < ts.length
  ·rw[decide_eq_true h1];rfl
  ·rw[decide_eq_false h1];rfl
 have hw:Bp (n+23) 5 []=some (.bool true):=by rw[p10];rfl
 unfold m3_
 simp only[e1,Ac,FW,Dj,EG,BU,hw]
 by_cases hl:30 < ts.length
 ·rw[decide_eq_true hl];rfl
 ·rw[decide_eq_false hl,AA]
  have both:∃ fl l e,l.length < 900000∧(∃ m,m < 900000∧O8 m l)∧Bp (n+23) 6 [(.agg ⟨[I R,I C,I K,(Sl.v 1 (sl f ts))]⟩)]=some (.tuple ⟨[SRf fl l,I e]⟩)∧Bp (n+23) 7 [(.agg ⟨[I R,I C,I K,(Sl.v 1 (sl f ts))]⟩)]=some (.tuple ⟨[SRf fl l,I e]⟩):=by
   by_cases hE:Iy R C K ts=0
   ·obtain⟨r,c,k,us,rfl,rfl,rfl,rfl,hg,hk⟩:=YA hE
    have hp:=Eb hg
    have hrc:r*c≤16:=Nat.mul_le_mul hp.r4 hp.c4
    have h6:=yS (n+16 - r*c) f hg hk
    rw[show n+16 - r*c+r*c+7=n+23 by omega,←Qw] at h6
    have h7:=yU (n+16) f hg hk hE (by simpa using (show us.length≤100 by have:=hp.len8;omega))
    rw[←Qw] at h7
    by_cases hs:k ^ (r*c)≤4096
    ·rw[if_pos hs] at h6 h7
     refine⟨0,MF r c k us,0,?_,⟨r*c,by omega,fun x hx=>?_⟩,h6,h7⟩
     ·have:=List.length_filter_le (BI r c us) (ext k (r*c) [])
      rw[ext_size] at this
      show (List.filter (BI r c us) (ext k (r*c) [])).length < _
      omega
     ·have:=X9 _ _ x (List.mem_filter.1 hx).1
      simpa using this
    ·rw[if_neg hs] at h6 h7
     exact⟨2,[],16,by simp,⟨0,by omega,fun x hx=>by cases hx⟩,h6,h7⟩
   ·have h25:=VU (n+16) f (R:=R) (C:=C) (K:=K) (ts:=ts) (by omega) hE
    have h30:=VM (n+16) f (R:=R) (C:=C) (K:=K) (ts:=ts) (by omega)
    have hne:nt (Bd (Iy R C K ts) (0:Int))=true:=by rw[Eo,decide_eq_false hE];rfl
    have hne':Bd (Iy R C K ts) (0:Int)=false:=by rw[Eo,decide_eq_false hE]
    unfold S at h25 h30
    refine⟨2,[],Iy R C K ts,by simp,⟨0,by omega,fun x hx=>by cases hx⟩,?_,?_⟩
    ·rw[p6]
     show zD (Bp (n+22)) L R C K (sl f ts)=_
     unfold zD
     simp only[h25,Ac,FW,Dj,EG,gK,Nz,AA,Zx,Ak,BP,hne]
     rfl
    ·rw[p7]
     show zF (Bp (n+22)) L R C K (sl f ts)=_
     unfold zF
     simp only[h30,Ac,BP,hne',AA]
     unfold Yi
     rw[AA]
     unfold Ud
     rw[hne,Ak]
     rfl
  obtain⟨fl,l,e,hll,⟨m,hm,he⟩,s1,s2⟩:=both
  have s3:=gM (n+21) fl fl hm he hll
  unfold SRf at s1 s2 s3
  simp only[s1,s2,Ac,FW,Dj,EG,Dc,BP,s3,BU,Ak,Eo,decide_eq_true]
  rfl
end Go.BkQ
