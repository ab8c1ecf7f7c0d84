/- Two colours exchanged. -/
import Derived.Test.YtokbaaeimejjlaaDoorBkMVx

set_option maxRecDepth 100000
set_option maxHeartbeats 4000000
namespace Go.BkQ
open Go Go.Sp Go.BkMM Go.BkH
def swp (a b v:Int):Int:=if v=a then b else if v=b then a else v
theorem UJ (a b v:Int):swp a b (swp a b v)=v:=by
 unfold swp
 by_cases h1:v=a
 ·subst h1
  rw[if_pos rfl]
  by_cases h2:b=v
  ·rw[if_pos h2];exact h2
  ·rw[if_neg h2,if_pos rfl]
 ·rw[if_neg h1]
  by_cases h2:v=b
  ·rw[if_pos h2,if_pos rfl,h2]
  ·rw[if_neg h2,if_neg h1,if_neg h2]
theorem lT {a b v w:Int}:swp a b v=swp a b w↔v=w:=⟨fun h=>by rw[←UJ a b v,h,UJ],fun h=>by rw[h]⟩
theorem Yy {a b:Int} {x y:List Int}:x.map (swp a b)=y.map (swp a b)↔x=y:=by
 constructor
 ·intro h
  have:(x.map (swp a b)).map (swp a b)=(y.map (swp a b)).map (swp a b):=by rw[h]
  simpa [Function.comp_def,UJ] using this
 ·intro h;rw[h]
section
variable {r c k:Nat} {us:List Nat} {x:List Int} {a b:Int}
theorem swp_right {A B:Nat} (hA:A < k) (hB:B < k) (hR:Je r c k x):Je r c k (x.map (swp (.ofNat A) (.ofNat B))):=by
 refine⟨by rw[List.length_map];exact hR.1,fun z hz=>?_⟩
 obtain⟨v,hv,rfl⟩:=List.mem_map.1 hz
 have:=hR.2 v hv
 unfold swp
 by_cases h1:v = .ofNat A
 ·rw[if_pos h1];exact⟨Int.natCast_nonneg B,Int.ofNat_lt.2 hB⟩
 ·rw[if_neg h1]
  by_cases h2:v = .ofNat B
  ·rw[if_pos h2];exact⟨Int.natCast_nonneg A,Int.ofNat_lt.2 hA⟩
  ·rw[if_neg h2];exact this
theorem getD_map {j:Nat} (hj:j < x.length):(x.map (swp a b)).getD j 0=swp a b (x.getD j 0):=by
 rw[List.getD_eq_getElem?_getD,List.getD_eq_getElem?_getD,List.getElem?_map,List.getElem?_eq_getElem hj];rfl
theorem WA (hg:(r,c,us)∈A7) (hx:x.length=r*c) {t:Nat} (ht:t∈us):pick (x.map (swp a b)) (cellL r c t)=(pick x (cellL r c t)).map (swp a b):=by
 have h:=((BO hg).row t ht).2.2
 unfold pick
 rw[List.map_map]
 exact List.map_congr_left fun j hj=>getD_map (by rw[hx];exact h j hj)
theorem bK (hg:(r,c,us)∈A7) (hx:x.length=r*c):Fb r c (x.map (swp a b)) us=Fb r c x us:=by
 unfold Fb
 congr 1
 refine List.filter_congr fun t ht=>decide_eq_decide.2 ?_
 rw[WA hg hx ht,Yy]
theorem lU (hg:(r,c,us)∈A7) (hx:x.length=r*c) {t:Nat} (ht:t∈us):bM (x.map (swp a b)) (cellL r c t)=bM x (cellL r c t):=by
 obtain⟨_,h1,h2⟩:=(BO hg).row t ht
 apply Nat.eq_of_testBit_eq
 intro j
 rw[UE,UE]
 by_cases hj:j < (cellL r c t).length
 ·have h3 : (cellL r c t).getD j 0 < x.length := by
   rw[List.getD_eq_getElem?_getD,List.getElem?_eq_getElem hj,hx]
   exact h2 _ (List.getElem_mem hj)
  rw[getD_map h3,getD_map (by omega)]
  congr 1
  exact decide_eq_decide.2 (not_congr lT)
 ·rw[decide_eq_false hj];rfl
theorem iN (hg:(r,c,us)∈A7) (hx:x.length=r*c):K9 r c (x.map (swp a b)) us=K9 r c x us:=List.map_congr_left fun _ ht=>lU hg hx ht
theorem bL (hg:(r,c,us)∈A7) (hx:x.length=r*c):FK r c (x.map (swp a b)) us=(FK r c x us).map fun y=>y.map (swp a b):=by
 unfold FK
 rw[List.map_map]
 exact List.map_congr_left fun _ ht=>WA hg hx ht
theorem Sk (hg:(r,c,us)∈A7):Gq (r*c) (FK r c x us):=fun z hz=>by
 unfold FK at hz
 obtain⟨t,ht,rfl⟩:=List.mem_map.1 hz
 exact Wt (k:=1) hg ht
theorem Sm {l:List (List Int)} (h:QC l):l.Nodup:=h.imp fun h e=>by rw[e,O9] at h;cases h
theorem lV (hg:(r,c,us)∈A7) (hx:x.length=r*c):(LZ r c (x.map (swp a b)) us).length=(LZ r c x us).length:=by
 obtain⟨s1,m1⟩:=R9 (Sk (x:=x.map (swp a b)) hg)
 obtain⟨s2,m2⟩:=R9 (Sk (x:=x) hg)
 have hp:(LZ r c (x.map (swp a b)) us).Perm ((LZ r c x us).map fun y=>y.map (swp a b)):=by
  refine(List.perm_ext_iff_of_nodup (Sm s1) ?_).2 fun y=>?_
  ·exact List.Pairwise.map _ (fun p q h e=>h (Yy.1 e)) (Sm s2)
  ·refine(m1 y).trans ?_
   rw[bL hg hx,List.mem_map,List.mem_map]
   exact⟨fun ⟨z,h1,h2⟩=>⟨z,(m2 z).2 h1,h2⟩,fun ⟨z,h1,h2⟩=>⟨z,(m2 z).1 h1,h2⟩⟩
 rw[hp.length_eq,List.length_map]
end
section
variable (M:Nat) {r c k A B:Nat} {us:List Nat} {x:List Int}
theorem Sn (pu:Af) (R C K:Int) (s:Sl) (hx:x.length≤2000):∀ (d w i cc:Nat),i+d=x.length→d < w→cc / 2=i→cc % 2=0→∃ cc',
 Ui pu M w (sl 0 x) (.ofNat A) (.ofNat B) i cc (sl 0 x) (.ofNat x.length) (.ofNat i) R C K s (((x.take i).map (swp (.ofNat A) (.ofNat B))).map I)=WH pu M (sl 0 x) x.length cc' R C K s ((x.map (swp (.ofNat A) (.ofNat B))).map I)
 | _,0,_,_,_,h,_,_=>by omega
 | 0, w + 1, i, cc, hd, _, _, _ => by
  refine⟨cc,?_⟩
  obtain rfl:i=x.length:=by omega
  show WJ pu M (Ui pu M w) (sl 0 x) (.ofNat A) (.ofNat B) x.length cc (sl 0 x) (.ofNat x.length) (.ofNat x.length) R C K s (((x.take x.length).map (swp (.ofNat A) (.ofNat B))).map I)=_
  unfold WJ
  rw[DT,Ak,G5 (by omega),AA,List.take_length]
 | d + 1, w + 1, i, cc, hd, hw, h1, h2 => by
  have hi:i < x.length:=by omega
  have hlen:((x.take i).map (swp (.ofNat A) (.ofNat B))).length=i:=by simp;omega
  have hg:GV 1 8 i cc 1 (((x.take i).map (swp (.ofNat A) (.ofNat B))).map I)=true:=by
   have:=oV (q:=(x.take i).map (swp (.ofNat A) (.ofNat B))) (c:=cc) (by rw[hlen];omega) (by rw[hlen];exact h1) h2
   rwa [hlen] at this
  have htk:(x.take (i+1)).map (swp (.ofNat A) (.ofNat B))=(x.take i).map (swp (.ofNat A) (.ofNat B))++[swp (.ofNat A) (.ofNat B) x[i]]:=by
   rw[List.take_add_one,List.getElem?_eq_getElem hi,List.map_append];rfl
  obtain⟨cc',ih⟩:=Sn pu R C K s hx d w (i+1) (2*(i+1)+bb false 1 0) (by omega) (by omega) (by show (2*(i+1)+0) / 2=i+1;omega) (by show (2*(i+1)+0) % 2=0;omega)
  refine⟨cc',?_⟩
  rw[htk] at ih
  rw[←ih]
  show WJ pu M (Ui pu M w) (sl 0 x) (.ofNat A) (.ofNat B) i cc (sl 0 x) (.ofNat x.length) (.ofNat i) R C K s (((x.take i).map (swp (.ofNat A) (.ofNat B))).map I)=_
  have step:∀ z:Int,WI pu M (Ui pu M w) (sl 0 x) (.ofNat A) (.ofNat B) i cc z (sl 0 x) (.ofNat x.length) (.ofNat i) R C K s (((x.take i).map (swp (.ofNat A) (.ofNat B))).map I)=Ui pu M w (sl 0 x) (.ofNat A) (.ofNat B) (i+1) (2*(i+1)+bb false 1 0) (sl 0 x) (.ofNat x.length) (.ofNat (i+1)) R C K s (((x.take i).map (swp (.ofNat A) (.ofNat B))++[z]).map I):=fun z=>by
   unfold WI
   rw[hg,Ak,oW,DT,Ak,DC i (by omega)]
  unfold WJ
  rw[DT,Ak,I8 hi,Ak,Cx,Ac,FY (show i < (sl 0 x).n from hi),Ak,show AL (sl 0 x).cs (i*1)=some (I x[i]) from Qr hi,Ac,BP,Ac,Dn,Dn]
  unfold swp
  by_cases e1:x[i]=Int.ofNat A
  ·rw[decide_eq_true e1,Ak,if_pos e1];exact step _
  ·rw[decide_eq_false e1,AA,if_neg e1]
   by_cases e2:x[i]=Int.ofNat B
   ·rw[decide_eq_true e2,Ak,if_pos e2];exact step _
   ·rw[decide_eq_false e2,AA,if_neg e2];exact step _
end
end Go.BkQ
set_option maxRecDepth 100000
set_option maxHeartbeats 4000000
namespace Go.BkQ
open Go Go.Sp Go.BkMM Go.BkH
theorem q22 (k:Nat) (args:List Value):Bp (k+1) 22 args=m22 (Bp k) L args:=by kernel_rfl
theorem q5 (k:Nat) (args:List Value):Bp (k+1) 5 args=m5 (Bp k) L args:=by kernel_rfl
theorem AiV (n:Nat):Bp (n+1) 19 []=some (.bool true):=by kernel_rfl
theorem Sq (pu:Af) (M:Nat) (za zb zf R C:Int) {k:Nat} (s s2:Sl) {len:Nat} (hk:k≤4) (hk1:1≤k) (hlen:len≤16):∀ (d w i:Nat),i+d=len→d < w →
 YC pu M w za zb s zf (.ofNat (k ^ i)) (.ofNat len) (.ofNat i) R C (.ofNat k) s2=YB pu M za zb s zf (.ofNat (k ^ len)) R C (.ofNat k) s2
 | _,0,_,_,h=>by omega
 | 0, w + 1, i, hd, _ => by
  obtain rfl:i=len:=by omega
  show WK pu M (YC pu M w) za zb s zf (.ofNat (k ^ i)) (.ofNat i) (.ofNat i) R C (.ofNat k) s2=_
  unfold WK
  rw[G5 (by omega),AA]
 | d + 1, w + 1, i, hd, hw => by
  have hb:k ^ i*k < 9223372036854775807:=by
   rw[←Nat.pow_succ,Nat.succ_eq_add_one]
   have h1:k ^ (i+1)≤4 ^ (i+1):=Nat.pow_le_pow_left hk _
   have h2:4 ^ (i+1)≤4 ^ 16:=Nat.pow_le_pow_right (by omega) (by omega)
   have h3:(4:Nat) ^ 16=4294967296:=rfl
   omega
  show WK pu M (YC pu M w) za zb s zf (.ofNat (k ^ i)) (.ofNat len) (.ofNat i) R C (.ofNat k) s2=_
  unfold WK
  rw[I8 (by omega),Ak,Aht hb,DC i (by omega),←Nat.pow_succ]
  exact Sq pu M za zb zf R C s s2 hk hk1 hlen d w (i+1) (by omega) (by omega)
section
variable {r c k:Nat} {us:List Nat} {X:List Int}
theorem Abj (n cc:Nat) (hg:(r,c,us)∈A7) (hk:k=1∨k=2∨k=3∨k=4) (hR:Je r c k X) {A B:Nat} (hA:A < k) (hB:B < k) :
 WH (Bp (n+15)) L (sl 0 X) X.length cc (.ofNat r) (.ofNat c) (.ofNat k) ⟨len us,0,Fh us⟩ ((X.map (swp (.ofNat A) (.ofNat B))).map I)=some (.bool true):=by
 have hRy:=swp_right hA hB hR
 have hrc:r*c≤16:=Nat.mul_le_mul (BO hg).r4 (BO hg).c4
 have hsl:(Sl.mk X.length 0 (Aq (X.length*1) (Am 0 ((X.map (swp (.ofNat A) (.ofNat B))).map I))))=sl 0 (X.map (swp (.ofNat A) (.ofNat B))):=by
  unfold sl
  have:=gG (l:=X.map (swp (.ofNat A) (.ofNat B)))
  rw[List.length_map] at this ⊢
  rw[this]
 have hfit:an (Nat.ble (0+X.length*1) (len ((X.map (swp (.ofNat A) (.ofNat B))).map I))) (Au Ah (Aq (X.length*1) (Am 0 ((X.map (swp (.ofNat A) (.ofNat B))).map I))))=true:=by
  have:=Ahf (l:=X.map (swp (.ofNat A) (.ofNat B)))
  rw[List.length_map] at this
  have h2:=gG (l:=X.map (swp (.ofNat A) (.ofNat B)))
  rw[List.length_map] at h2
  rw[h2];exact this
 have s1:Bp (n+15) 15 [.agg ⟨[I (.ofNat r),I (.ofNat c),I (.ofNat k),Sl.v 1 ⟨len us,0,Fh us⟩]⟩,Sl.v 1 (sl 0 X)]=some (.tuple ⟨[Sl.v 1 (sl 0 (Fb r c X us)),I 0]⟩):=Yr (n+7) 0 0 hg hk hR
 have s2:Bp (n+15) 15 [.agg ⟨[I (.ofNat r),I (.ofNat c),I (.ofNat k),Sl.v 1 ⟨len us,0,Fh us⟩]⟩,Sl.v 1 (sl 0 (X.map (swp (.ofNat A) (.ofNat B))))]=some (.tuple ⟨[Sl.v 1 (sl 0 (Fb r c X us)),I 0]⟩):=by
  have:=Yr (n+7) 0 0 hg hk hRy
  rw[bK hg hR.1] at this;exact this
 obtain⟨H,h1,h2⟩:=Yu (n+1) 0 0 hg hk hR
 obtain⟨H',h3,h4⟩:=Yu (n+1) 0 0 hg hk hRy
 rw[iN hg hR.1] at h3
 obtain rfl:=ZM.uniq Yt h3 h1
 have s3:Bp (n+15) 20 [.agg ⟨[I (.ofNat r),I (.ofNat c),I (.ofNat k),Sl.v 1 ⟨len us,0,Fh us⟩]⟩,Sl.v 1 (sl 0 X)]=some (.tuple ⟨[Sl.v 1 (sl (lJ (ints H')) (ints H')),I 0]⟩):=h2
 have s4:Bp (n+15) 20 [.agg ⟨[I (.ofNat r),I (.ofNat c),I (.ofNat k),Sl.v 1 ⟨len us,0,Fh us⟩]⟩,Sl.v 1 (sl 0 (X.map (swp (.ofNat A) (.ofNat B))))]=some (.tuple ⟨[Sl.v 1 (sl (lJ (ints H')) (ints H')),I 0]⟩):=h4
 have s5:Bp (n+15) 14 [.agg ⟨[I (.ofNat r),I (.ofNat c),I (.ofNat k),Sl.v 1 ⟨len us,0,Fh us⟩]⟩,Sl.v 1 (sl 0 X)]=some (.tuple ⟨[SR (LZ r c X us),I 0]⟩):=pG (n+7) 0 0 hg hk hR
 have s6:Bp (n+15) 14 [.agg ⟨[I (.ofNat r),I (.ofNat c),I (.ofNat k),Sl.v 1 ⟨len us,0,Fh us⟩]⟩,Sl.v 1 (sl 0 (X.map (swp (.ofNat A) (.ofNat B))))]=some (.tuple ⟨[SR (LZ r c (X.map (swp (.ofNat A) (.ofNat B))) us),I 0]⟩):=pG (n+7) 0 0 hg hk hRy
 have hkl:=lV (a:=.ofNat A) (b:=.ofNat B) hg hR.1
 have hHl:(ints H').length≤16:=by
  have e:(ints H').length=H'.length:=by simp[ints]
  have:H'.length≤(List.range (r*c)).length:=UC (Gw h3.asc) (Gw List.pairwise_lt_range) fun a ha=>List.mem_range.2 (h3.rng a ha)
  rw[List.length_range] at this;omega
 have t1:Bp (n+15) 12 [Sl.v 1 (sl 0 (Fb r c X us)),Sl.v 1 (sl 0 (Fb r c X us))]=some (.bool true):=by
  have h8:=(QE hg).2
  have := Ye (n + 14) 0 0 (a := Fb r c X us) (b := Fb r c X us) (by
   have:(Fb r c X us).length≤us.length:=by unfold Fb;rw[List.length_map];exact List.length_filter_le _ _
   omega)
  rw[decide_eq_true rfl] at this;exact this
 have t2:Bp (n+15) 12 [Sl.v 1 (sl (lJ (ints H')) (ints H')),Sl.v 1 (sl (lJ (ints H')) (ints H'))]=some (.bool true):=by
  have:=Ye (n+14) (lJ (ints H')) (lJ (ints H')) (a:=ints H') (b:=ints H') (by omega)
  rw[decide_eq_true rfl] at this;exact this
 have z0:Bd (0:Int) 0=true:=rfl
 unfold WH MH
 have s5':Bp (n+15) 14 [.agg ⟨[I (.ofNat r),I (.ofNat c),I (.ofNat k),Sl.v 1 ⟨len us,0,Fh us⟩]⟩,Sl.v 1 (sl 0 X)]=some (.tuple ⟨[Sl.v 1 ⟨(LZ r c X us).length,0,RW (LZ r c X us)⟩,I 0]⟩):=s5
 have s6':Bp (n+15) 14 [.agg ⟨[I (.ofNat r),I (.ofNat c),I (.ofNat k),Sl.v 1 ⟨len us,0,Fh us⟩]⟩,Sl.v 1 (sl 0 (X.map (swp (.ofNat A) (.ofNat B))))]=some (.tuple ⟨[Sl.v 1 ⟨(LZ r c X us).length,0,RW (LZ r c (X.map (swp (.ofNat A) (.ofNat B))) us)⟩,I 0]⟩):=by rw[←hkl];exact s6
 have zl:Bd (Int.ofNat (LZ r c X us).length) (Int.ofNat (LZ r c X us).length)=true:=by rw[FN];simp
 simp only[s1,Ac,FW,Dj,EG,Dc,BP,DT,Ak,hfit,hsl,s2,s3,s4,s5',s6',z0,t1,t2,BU,zl,AiV]
end
theorem more_law (n:Nat) (y0 y1 y2 y3 one two:Int) (x:Nat→Int) (h0:0≤y0∧y0 < 256) (h1:0≤y1∧y1 < 256) (h2:0≤y2∧y2 < 256) (h3:0≤y3∧y3 < 256) (ho:0≤one∧one < 256) (ht:0≤two∧two < 256) (hx:∀ i,0≤x i∧x i < 256) :
 Bp (n+16) 5 [.agg ⟨[.int .u8 y0,.int .u8 y1,.int .u8 y2,.int .u8 y3,.int .u8 (x 0),.int .u8 (x 1),.int .u8 (x 2),.int .u8 (x 3),.int .u8 (x 4),.int .u8 (x 5),.int .u8 (x 6),.int .u8 (x 7),.int .u8 (x 8),.int .u8 (x 9),.int .u8 (x 10),.int .u8 (x 11),.int .u8 (x 12),.int .u8 (x 13),.int .u8 (x 14),.int .u8 (x 15)]⟩,.int .u8 one,.int .u8 two]=some (.bool true):=by
 obtain⟨r,c,k,us,X,e9,hg,hg0,hk3,hR⟩:=lN (n+14) y0 y1 y2 y3 x h0 h1 h2 h3 hx
 have hk:k=1∨k=2∨k=3∨k=4:=by omega
 have hk':k+1=1∨k+1=2∨k+1=3∨k+1=4:=by omega
 have hp:=BO hg
 have hrc:r*c≤16:=Nat.mul_le_mul hp.r4 hp.c4
 obtain⟨A,hA,eA⟩:=Kc ho (m:=k) (by omega)
 obtain⟨B,hB,eB⟩:=Kc ht (m:=k) (by omega)
 rw[q5]
 show m5_ (Bp (n+15)) L [.int .u8 y0,.int .u8 y1,.int .u8 y2,.int .u8 y3,.int .u8 (x 0),.int .u8 (x 1),.int .u8 (x 2),.int .u8 (x 3),.int .u8 (x 4),.int .u8 (x 5),.int .u8 (x 6),.int .u8 (x 7),.int .u8 (x 8),.int .u8 (x 9),.int .u8 (x 10),.int .u8 (x 11),.int .u8 (x 12),.int .u8 (x 13),.int .u8 (x 14),.int .u8 (x 15)] one two=_
 have ec:Au Ah ([.int .u8 y0,.int .u8 y1,.int .u8 y2,.int .u8 y3,.int .u8 (x 0),.int .u8 (x 1),.int .u8 (x 2),.int .u8 (x 3),.int .u8 (x 4),.int .u8 (x 5),.int .u8 (x 6),.int .u8 (x 7),.int .u8 (x 8),.int .u8 (x 9),.int .u8 (x 10),.int .u8 (x 11),.int .u8 (x 12),.int .u8 (x 13),.int .u8 (x 14),.int .u8 (x 15)]:List Value)=true:=rfl
 have eb:Nat.ble (0+20) (len ([.int .u8 y0,.int .u8 y1,.int .u8 y2,.int .u8 y3,.int .u8 (x 0),.int .u8 (x 1),.int .u8 (x 2),.int .u8 (x 3),.int .u8 (x 4),.int .u8 (x 5),.int .u8 (x 6),.int .u8 (x 7),.int .u8 (x 8),.int .u8 (x 9),.int .u8 (x 10),.int .u8 (x 11),.int .u8 (x 12),.int .u8 (x 13),.int .u8 (x 14),.int .u8 (x 15)]:List Value))=true:=rfl
 have et:Aq 20 (Am 0 ([.int .u8 y0,.int .u8 y1,.int .u8 y2,.int .u8 y3,.int .u8 (x 0),.int .u8 (x 1),.int .u8 (x 2),.int .u8 (x 3),.int .u8 (x 4),.int .u8 (x 5),.int .u8 (x 6),.int .u8 (x 7),.int .u8 (x 8),.int .u8 (x 9),.int .u8 (x 10),.int .u8 (x 11),.int .u8 (x 12),.int .u8 (x 13),.int .u8 (x 14),.int .u8 (x 15)]:List Value))=[.int .u8 y0,.int .u8 y1,.int .u8 y2,.int .u8 y3,.int .u8 (x 0),.int .u8 (x 1),.int .u8 (x 2),.int .u8 (x 3),.int .u8 (x 4),.int .u8 (x 5),.int .u8 (x 6),.int .u8 (x 7),.int .u8 (x 8),.int .u8 (x 9),.int .u8 (x 10),.int .u8 (x 11),.int .u8 (x 12),.int .u8 (x 13),.int .u8 (x 14),.int .u8 (x 15)]:=rfl
 have e2:Au closed2 [.agg ⟨[.int .u8 y0,.int .u8 y1,.int .u8 y2,.int .u8 y3,.int .u8 (x 0),.int .u8 (x 1),.int .u8 (x 2),.int .u8 (x 3),.int .u8 (x 4),.int .u8 (x 5),.int .u8 (x 6),.int .u8 (x 7),.int .u8 (x 8),.int .u8 (x 9),.int .u8 (x 10),.int .u8 (x 11),.int .u8 (x 12),.int .u8 (x 13),.int .u8 (x 14),.int .u8 (x 15)]⟩,.int .i64 4,.int .i64 3]=true:=rfl
 have e22:Bp (n+15) 22 [(Sl.v 1 (Sl.mk 1 0 (Aq (1*1) (Am 0 ([(.int .i64 (0:Int))]:List Value)))))]=some (Sl.v 1 ⟨len [0],0,Fh [0]⟩):=by rw[q22];rfl
 have c1:Bp (n+15) 23 [.agg ⟨[I (.ofNat r),I (.ofNat c),I (.ofNat k),Sl.v 1 ⟨len us,0,Fh us⟩]⟩]=some (.tuple ⟨[I (.ofNat (OM r c k us)),I 0]⟩):=UI (n+7) 0 hk hg
 have c2:Bp (n+15) 23 [.agg ⟨[I (.ofNat r),I (.ofNat c),I (.ofNat (k+1)),Sl.v 1 ⟨len us,0,Fh us⟩]⟩]=some (.tuple ⟨[I (.ofNat (OM r c (k+1) us)),I 0]⟩):=UI (n+7) 0 hk' hg
 have c3:Bp (n+15) 23 [.agg ⟨[I (.ofNat r),I (.ofNat c),I (.ofNat k),Sl.v 1 ⟨len [0],0,Fh [0]⟩]⟩]=some (.tuple ⟨[I (.ofNat (k ^ (r*c))),I 0]⟩):=by
  have:=UI (n+7) 0 hk hg0
  rw[lQ hg0] at this;exact this
 have e9':Bp (n+15) 9 [.agg ⟨[.int .u8 y0,.int .u8 y1,.int .u8 y2,.int .u8 y3,.int .u8 (x 0),.int .u8 (x 1),.int .u8 (x 2),.int .u8 (x 3),.int .u8 (x 4),.int .u8 (x 5),.int .u8 (x 6),.int .u8 (x 7),.int .u8 (x 8),.int .u8 (x 9),.int .u8 (x 10),.int .u8 (x 11),.int .u8 (x 12),.int .u8 (x 13),.int .u8 (x 14),.int .u8 (x 15)]⟩,.int .i64 4,.int .i64 3]=some (.tuple ⟨[.agg ⟨[I (.ofNat r),I (.ofNat c),I (.ofNat k),Sl.v 1 ⟨len us,0,Fh us⟩]⟩,Sl.v 1 (sl 0 X)]⟩):=e9
 have l1:AY (Int.ofNat (OM r c (k+1) us)) (Int.ofNat (OM r c k us))=false:=G5 (Nat.not_lt.2 iM)
 have l2:AY (Int.ofNat (k ^ (r*c))) (Int.ofNat (OM r c k us))=false:=G5 (Nat.not_lt.2 (lS hk hg))
 unfold m5_
 simp only[ec,eb,et,e2,Ak,e9',Ac,FW,Dj,EG,RL,BP,Dc,e22,c1,c3,DC k (by omega),c2,iF,AA,l1,l2]
 unfold UW
 rw[AA]
 refine Eq.trans (Sq (Bp (n+15)) L one two (.ofNat (k ^ (r*c))) (.ofNat r) (.ofNat c) (k:=k) (sl 0 X) ⟨len us,0,Fh us⟩ (len:=X.length) (by omega) (by omega) (by rw[hR.1];exact hrc) X.length L 0 (by omega) (by rw[hR.1];show _ < 1000000;omega)) ?_
 unfold YB
 have ke:nt (Bd (Int.ofNat k) 0)=true:=by
  rw[show (0:Int) = .ofNat 0 from rfl,FN,show Nat.beq k 0=false from Bool.eq_false_iff.2 fun h=>by have:=Nat.eq_of_beq_eq_true h;omega];rfl
 rw[hR.1,FN,show Nat.beq (k ^ (r*c)) (k ^ (r*c))=true from by simp,show nt true=false from rfl,AA,ke,Ak,Ak,eA,eB]
 obtain⟨cc,hs⟩:=Sn L (A:=A) (B:=B) (x:=X) (Bp (n+15)) (.ofNat r) (.ofNat c) (.ofNat k) ⟨len us,0,Fh us⟩ (by rw[hR.1];omega) X.length L 0 0 (by omega) (by rw[hR.1];show _ < 1000000;omega) rfl rfl
 refine Eq.trans hs ?_
 exact Abj n cc hg hk hR hA hB
end Go.BkQ
