/- Made from wip. -/
import Derived.Test.YtpfpakeeaehmhaaDoorTbWLaw8x
import Derived.Test.YtpfpakeeaehmhaaDoorSpObjx

set_option maxRecDepth 100000
namespace Go.TM
def KZ (r:List Int) (p:Int×Int):Prop:=r.getD p.2.toNat 0 < r.getD p.1.toNat 0
theorem LQ {n:Nat} {r:List Int} {p:Int×Int} (hp:W9 n p) (hr:r.length=n):K8 r p=r↔¬ KZ r p:=by
 have hp2:=hp
 obtain⟨h1,h2,h3⟩:=hp2
 constructor
 ·intro e c
  have h:=Wp hp hr p.2.toNat
  rw[e,if_pos rfl] at h
  unfold KZ at c
  omega
 ·intro c
  unfold KZ at c
  unfold K8
  rw[Int.min_eq_left (by omega),Int.max_eq_right (by omega),K9 r _ (by omega),K9 r _ (by omega)]
theorem UN {b:List Nat} (h:wd b) {p:Int×Int} {n:Nat} (hp:W9 n p) (hn:n≤7):pass b p=b↔∀ m,m < 128→Fp (pass b p) n m=Fp b n m:=by
 refine⟨fun e m _=>by rw[e],fun e=>?_⟩
 have hw:=KT h p
 have hbit:∀ lane m,m < 128→bit (pass b p) lane m=bit b lane m:=fun lane m hm=>by
  by_cases c:lane < n
  ·have:(Fp (pass b p) n m).getD lane 0=(Fp b n m).getD lane 0:=by rw[e m hm]
   rw[Gp _ _ _ _ c,Gp _ _ _ _ c] at this
   cases h1:bit (pass b p) lane m <;> cases h2:bit b lane m <;> simp_all
  ·have hp2:=hp
   obtain⟨h1,h2,h3⟩:=hp2
   rw[R6 h hp hn lane m hm,if_neg (by omega),if_neg (by omega)]
 apply List.ext_getElem (by rw[hw.1,h.1])
 intro i h1 h2
 have h14:i < 14:=by rw[h.1] at h2;exact h2
 have e1:(pass b p)[i]=(pass b p).getD i 0:=by simp[List.getD_eq_getElem?_getD,h1]
 have e2:b[i]=b.getD i 0:=by simp[List.getD_eq_getElem?_getD,h2]
 rw[e1,e2]
 apply Nat.eq_of_testBit_eq
 intro j
 by_cases c:j < 64
 ·have:=hbit (i / 2) (64*(i % 2)+j) (by omega)
  unfold bit at this
  rw[show i / 2*2+(64*(i % 2)+j) / 64=i by omega,show (64*(i % 2)+j) % 64=j by omega] at this
  exact this
 ·have hj:2 ^ 64≤2 ^ j:=Nat.pow_le_pow_right (by omega) (by omega)
  rw[Nat.testBit_lt_two_pow (Nat.lt_of_lt_of_le (FL hw i) hj),Nat.testBit_lt_two_pow (Nat.lt_of_lt_of_le (FL h i) hj)]
section
variable {N:Nat} {D:List (Int×Int)} {p:Int×Int}
theorem WL (hD:Gw N D) (hp:W9 N p):(∃ q∈Eb N N [],KZ (runs q D) p)↔∃ m,m < 2 ^ N∧KZ (runs (plain N m) D) p:=by
 have hp2:=hp
 obtain⟨h1,h2,h3⟩:=hp2
 constructor
 ·rintro⟨q,hq,c⟩
  have hl:q.length=N:=by have:=LK N N [] q hq;simpa using this
  obtain⟨m,hm,e⟩:=X6 (N:=N) ((runs q D).getD p.1.toNat 0) hl
  refine⟨m,hm,?_⟩
  have hr:runs (plain N m) D=(runs q D).map fun x=>if (runs q D).getD p.1.toNat 0≤x then (1:Int) else 0:=by rw[e];exact JO (O5 _) D q hD hl
  unfold KZ at c ⊢
  rw[hr,getD_map _ _ _ (by rw[Eo];omega),getD_map _ _ _ (by rw[Eo];omega),if_neg (by omega),if_pos (Int.le_refl _)]
  decide
 ·rintro⟨m,hm,c⟩
  obtain⟨q,hq,e,hl⟩:=row_of (N:=N) (m:=m)
  refine⟨q,hq,?_⟩
  have hr:runs (plain N m) D=(runs q D).map fun x=>if (zeros (plain N m):Int)≤x then (1:Int) else 0:=by
   have:=JO (O5 (zeros (plain N m):Int)) D q hD hl
   rw[e] at this;exact this
  unfold KZ at c ⊢
  rw[hr,getD_map _ _ _ (by rw[Eo];omega),getD_map _ _ _ (by rw[Eo];omega)] at c
  apply Classical.byContradiction
  intro k
  have:=O5 (zeros (plain N m):Int) _ _ (show (runs q D).getD p.1.toNat 0≤(runs q D).getD p.2.toNat 0 by omega)
  dsimp only at this
  omega
theorem UO (hN:N≤7) {b:List Nat} (hb:Je N b) (hD:Gw N D) (hp:W9 N p):pass (Fb b D) p=Fb b D↔¬ ∃ q∈Eb N N [],KZ (runs q D) p:=by
 have hp7:2 ^ N≤128:=(Nat.pow_le_pow_right (by omega) hN:2 ^ N≤2 ^ 7)
 rw[WL hD hp,UN (FX D b hb.1) hp hN]
 constructor
 ·rintro e ⟨m,hm,c⟩
  have:=e m (by omega)
  rw[LX (FX D b hb.1) hp hN m (by omega),Jd hN m (by omega) D b hb.1 hD,hb.2.1 m hm] at this
  exact(LQ hp (by rw[Eo,FD])).1 this c
 ·intro e m hm
  rw[LX (FX D b hb.1) hp hN m hm,Jd hN m hm D b hb.1 hD]
  by_cases c:m < 2 ^ N
  ·rw[hb.2.1 m c]
   exact(LQ hp (by rw[Eo,FD])).2 fun k=>e ⟨m,c,k⟩
  ·rw[hb.2.2 m (by omega) hm]
   exact(LQ hp (by rw[Eo,FD])).2 fun k=>e ⟨0,Nat.two_pow_pos N,k⟩
end
theorem O6 (b:List Nat) (C D:List (Int×Int)):Fb b (C++D)=Fb (Fb b C) D:=by simp[Fb]
def fw (keep:Nat→Bool):Nat→List (Int×Int)→List (Int×Int)
 | _,[]=>[]
 | i,p::C=>(if keep i=true then [p] else [])++fw keep (i+1) C
theorem WM (keep:Nat→Bool):∀ (C:List (Int×Int)) (i:Nat),(fw keep i C).length≤C.length
 | [],_=>Nat.le_refl _
 | p :: C, i => by
  have:=WM keep C (i+1)
  unfold fw
  split <;> simp <;> omega
theorem WN (keep:Nat→Bool):∀ (C:List (Int×Int)) (i:Nat),∀ q∈fw keep i C,q∈C
 | [],_,q,h=>h
 | p :: C, i, q, h => by
  unfold fw at h
  rcases List.mem_append.1 h with h | h
  ·split at h
   ·rw[List.mem_singleton.1 h];simp
   ·cases h
  ·exact List.mem_cons_of_mem _ (WN keep C (i+1) q h)
theorem Sc (keep:Nat→Bool):∀ (C:List (Int×Int)) {n:Nat} (r:List Int) (i:Nat) (_:Gw n C) (_:r.length=n) (_:∀ k,k < C.length→keep (i+k)=false→¬ KZ (runs r (C.take k)) (C.getD k (0,0))),
 runs r (fw keep i C)=runs r C
 | [],_,_,_,_,_,_=>rfl
 | p :: C, n, r, i, hC, hr, h => by
  have hC':Gw n C:=fun q hq=>hC q (by simp[hq])
  have h0:keep i=false→K8 r p=r:=fun e=>(LQ (hC p (by simp)) hr).2 (h 0 (by simp) e)
  have ih:=Sc keep C (K8 r p) (i+1) hC' (by rw[Gn];exact hr) fun k hk e=>by
   have:=h (k+1) (by simp;omega) (by rw[show i+(k+1)=i+1+k by omega];exact e)
   simpa [KS] using this
  unfold fw
  rw[Wo,KS]
  by_cases e:keep i=true
  ·rw[if_pos e];exact ih
  ·rw[if_neg e]
   have h2:=h0 (by simpa using e)
   rw[h2] at ih ⊢
   exact ih
end Go.TM
set_option maxRecDepth 100000
set_option maxHeartbeats 4000000
namespace Go.TbWM
open Go Go.Sp Go.TbW Go.TM
def lr (v:Int):Nat→List (Int×Int)→List Int→List Int
 | _,[],r=>r
 | i,p::C,r=>if (i:Int)=v then lr v (i+1) C r else lr v (i+1) C (K8 r p)
noncomputable def ld (v:Int):Nat→List (Int×Int)→List Int→List Bool
 | _,[],_=>[]
 | i,p::C,r=>if (i:Int)=v then false::ld v (i+1) C r else JN (KZ r p)::ld v (i+1) C (K8 r p)
theorem QE (v:Int):∀ (C:List (Int×Int)) (i:Nat) (r:List Int),(lr v i C r).length=r.length
 | [],_,_=>rfl
 | p :: C, i, r => by
  unfold lr
  by_cases h:(i:Int)=v
  ·rw[if_pos h];exact QE v C (i+1) r
  ·rw[if_neg h,QE v C (i+1) _,Gn]
theorem QF (v:Int):∀ (C:List (Int×Int)) (i:Nat) (r:List Int),(ld v i C r).length=C.length
 | [],_,_=>rfl
 | p :: C, i, r => by
  unfold ld
  by_cases h:(i:Int)=v
  ·rw[if_pos h,List.length_cons,QF v C (i+1) r,List.length_cons]
  ·rw[if_neg h,List.length_cons,QF v C (i+1) _,List.length_cons]
theorem SG (v:Int):∀ (C:List (Int×Int)) (i:Nat) (r:List Int),v < (i:Int)→lr v i C r=runs r C
 | [],_,_,_=>rfl
 | p :: C, i, r, h => by
  unfold lr
  rw[if_neg (by omega),SG v C (i+1) _ (by omega)];rfl
theorem WO:∀ (C:List (Int×Int)) (i k:Nat) (r:List Int),k < C.length→lr ((i+k:Nat):Int) i C r=runs r (C.take k++C.drop (k+1))
 | [],_,_,_,h=>by simp at h
 | p :: C, i, 0, r, _ => by
  unfold lr
  rw[if_pos (by omega),SG _ C (i+1) r (by omega)];rfl
 | p :: C, i, k + 1, r, h => by
  unfold lr
  have h:k < C.length:=by simpa using h
  rw[if_neg (by omega),show i+(k+1)=i+1+k by omega,WO C (i+1) k _ h];rfl
theorem bJ:∀ (C:List (Int×Int)) (i k:Nat) (r:List Int),k < C.length→(ld (-1) i C r).getD k false=JN (KZ (runs r (C.take k)) (C.getD k (0,0)))
 | [],_,_,_,h=>by simp at h
 | p :: C, i, 0, r, _ => by
  unfold ld
  rw[if_neg (by omega)];rfl
 | p :: C, i, k + 1, r, h => by
  unfold ld
  have h:k < C.length:=by simpa using h
  rw[if_neg (by omega)]
  show (ld (-1) (i+1) C (K8 r p)).getD k false=_
  rw[bJ C (i+1) k _ h];rfl
theorem l32 (pu:Af) (n fl c c2:Nat) (v:Int) (N:Nat) (C:List (Int×Int)) (hf:Gw N C) (hC:C.length < 1000):∀ (d w i:Nat) (r:List Int) (E:List Bool),i+d=C.length→d < w→r.length=N→E.length=i →
 MR pu n w v r.length c C.length c2 (cl fl C) (Int.ofNat C.length) (Int.ofNat i) (r.map I) (DB (E++List.replicate d false))=some (.tuple ⟨[S 0 (lr v i (C.drop i) r),Sl.v 1 ⟨C.length,0,DB (E++ld v i (C.drop i) r)⟩]⟩)
 | _,0,_,_,_,_,h,_,_=>by omega
 | 0, w + 1, i, r, E, hd, _, hr, hE => by
  show OB pu n (MR pu n w) _ _ _ _ _ _ _ _ _ _=_
  unfold OB
  rw[Jv,M9,Ak,Ak,CY (by omega),AA,List.drop_eq_nil_of_le (by omega)]
  have h:=Acm pu n c c2 r (E++List.replicate 0 false)
  rw[show (E++List.replicate 0 false).length=C.length by simp;omega] at h
  exact h
 | d + 1, w + 1, i, r, E, hd, hw, hr, hE => by
  have hlt:i < C.length:=by omega
  obtain⟨g1,g2⟩:=JP C i hlt
  have e:C.drop i=C[i]::C.drop (i+1):=List.drop_eq_getElem_cons hlt
  obtain⟨A,B,hA,hB,a1,b1,hAB,tA,tB⟩:=ZO hf hlt
  have a2:A < r.length:=by omega
  have b2:B < r.length:=by omega
  rw[hA] at g1
  rw[hB] at g2
  have hb:Nat.ble (i*2+2) (len (pc C))=true:=by rw[ble_eq,AV,Gu];simp;omega
  have hsp:∀ x:Bool,E++x::List.replicate d false=(E++[x])++List.replicate d false:=by simp
  have hso:∀ (x:Bool) (l:List Bool),E++x::l=(E++[x])++l:=by simp
  have hnx:∀ x:Bool,(E++[x]).length=i+1:=by simp[hE]
  have hiD:i < (E++List.replicate (d+1) false).length:=by simp;omega
  rw[e]
  show OB pu n (MR pu n w) _ _ _ _ _ _ _ _ _ _=some (.tuple ⟨[S 0 (lr v i (C[i]::C.drop (i+1)) r),Sl.v 1 ⟨C.length,0,DB (E++ld v i (C[i]::C.drop (i+1)) r)⟩]⟩)
  unfold lr ld OB
  rw[Jv,M9,C8 hlt]
  by_cases hv:(i:Int)=v
  ·have next:=l32 pu n fl c c2 v N C hf hC d w (i+1) r (E++[false]) (by omega) (by omega) hr (hnx _)
   rw[←hsp,←hso] at next
   rw[if_pos hv,if_pos hv]
   have hne:nt (Bd (Int.ofNat i) v)=false:=by rw[←hv];exact OX _
   simp only[Ak,Cx,Ac,LZ,M8,blt_eq,hlt,decide_true,CF,Bool.true_and,hb,BZ,g1,g2,BP,hne,AA]
   unfold Po Pn
   rw[List.replicate_succ]
   simp only[Ak,AA,Jv,M9,DC i (by omega:i < 1000000)]
   exact next
  ·have hne:nt (Bd (Int.ofNat i) v)=true:=Wv hv
   rw[if_neg hv,if_neg hv]
   simp only[Ak,Cx,Ac,LZ,M8,blt_eq,hlt,decide_true,CF,Bool.true_and,hb,BZ,g1,g2,BP,hne,a2,b2,Nat.zero_add,Nat.mul_one,Kb r A a2,Kb r B b2]
   unfold Po Pn
   have hex:KZ r C[i]↔r.getD B 0 < r.getD A 0:=by unfold KZ;rw[tA,tB]
   by_cases c1:r.getD B 0 < r.getD A 0
   ·have s1:BM ([I (r.getD B 0)]:List Value) A (r.map I)=(r.set A (r.getD B 0)).map I:=by rw[Iy _ _ _ (by simpa using a2),List.map_set]
    have s2:BM ([I (r.getD A 0)]:List Value) B ((r.set A (r.getD B 0)).map I)=(K8 r C[i]).map I:=by
     rw[Iy _ _ _ (by simpa using b2),←List.map_set,WJ tA tB hAB c1]
    have next:=l32 pu n fl c c2 v N C hf hC d w (i+1) (K8 r C[i]) (E++[true]) (by omega) (by omega) (by rw[Gn];exact hr) (hnx _)
    rw[Gn,←hsp,←hso] at next
    have hset:(E++List.replicate (d+1) false).set i true=E++true::List.replicate d false:=by
     rw[List.replicate_succ,←hE,List.set_append_right _ _ (Nat.le_refl _),Nat.sub_self];rfl
    rw[Fh (hex.2 c1),Ph.2 c1]
    simp only[Ak,Cx,Ac,blt_eq,a2,b2,hlt,decide_true,CF,Bool.true_and,BZ,Nat.zero_add,Nat.mul_one,Kb r A a2,Kb r B b2,BP,s1,s2,ble_eq,AV,List.length_map,List.length_set,QD,Nat.succ_le_of_lt a2,Nat.succ_le_of_lt b2,Nat.succ_le_of_lt hiD,Jv,M9,oG _ i hiD,hset,Bool.and_true,DC i (by omega:i < 1000000)]
    exact next
   ·have next:=l32 pu n fl c c2 v N C hf hC d w (i+1) (K8 r C[i]) (E++[false]) (by omega) (by omega) (by rw[Gn];exact hr) (hnx _)
    rw[←Sa tA tB a2 b2 c1,←hsp,←hso] at next
    rw[FK (fun h=>c1 (hex.1 h)),OW.2 c1,←Sa tA tB a2 b2 c1,List.replicate_succ]
    simp only[AA,Ak,Jv,M9,DC i (by omega:i < 1000000)]
    exact next
theorem p32 (n fl fl' N:Nat) (v:Int) (C:List (Int×Int)) (r:List Int) (h7:N≤7) (hl:C.length≤24) (hC:Gw N C) (hr:r.length=N):BI (n+1) 32 [tb fl (Int.ofNat N) C,S fl' r,I v]=some (.tuple ⟨[S 0 (lr v 0 C r),Sl.v 1 ⟨C.length,0,DB (ld v 0 C r)⟩]⟩):=by
 have e:BI (n+1) 32 [tb fl (Int.ofNat N) C,S fl' r,I v]=Xf (BI n) 1000000 (Int.ofNat N) (cl fl C) (sl fl' r) v:=by kernel_rfl
 have rm:EQ (0+r.length) 8=true:=by rw[Nat.zero_add];exact QB (by omega)
 have hz:=Sb C.length (by omega)
 have hk:an (Nat.ble C.length C.length) (an (Nat.ble (C.length*1) 1099511627776) (an (Nat.ble C.length 1099511627776) true))=true:=by
  rw[CF,CF,CF,ble_eq,ble_eq,ble_eq];simp;omega
 have h:=l32 (BI n) 1000000 fl (2*r.length+bb false 1 0) (2*C.length+bb true 1 0) v N C hC (by omega) C.length 1000000 0 r [] (by omega) (by omega) hr rfl
 rw[List.drop_zero] at h
 rw[e];unfold Xf
 simp only[I4,GX,LZ,rm,Ak,WH,Jv,hk,hz,M9]
 exact h
theorem AaC {n c:Nat} {xs:List Value} (hx:xs.length=n) (hc:c / 2=n) (hc2:c % 2=0) (hb:n≤1000):GV 1 8 n c 1 xs=true:=by
 unfold GV
 have h1:EQ (n+1) 8=true:=by
  unfold EQ
  exact Nat.ble_eq_true_of_le (by show (4*(n+1)+4096)*8≤281474976710656;omega)
 have h2:nt (Nat.ble (n+1) (c / 2))=true:=by
  rw[hc]
  cases h:Nat.ble (n+1) n with
  | false=>rfl
  | true=>have:=Nat.le_of_ble_eq_true h;omega
 have h3:Nat.ble (0+n*1) (len xs)=true:=Nat.ble_eq_true_of_le (by rw[AV,hx];omega)
 have h4:Nat.beq (0+n*1) (len xs)=true:=by rw[AV,hx,Nat.zero_add,Nat.mul_one];simp
 rw[h1,h2,h3,h4,hc2];rfl
theorem Un {l:List Int} {c:Nat} (hc:c / 2=l.length) (hc2:c % 2=0) (hb:l.length≤1000):GV 1 8 l.length c 1 (l.map I)=true:=AaC (by simp) hc hc2 hb
theorem X7 (l:List Int) (z:Int):Br (Am 0 (l.map I)) [I z]=(l++[z]).map I:=by rw[BH,Bz,List.drop_zero];simp
theorem O7 (l:List Int) (z:Int):(l++[z]).length=l.length+1:=by simp
theorem AaD (l:List Int):bb (Au Ah (l.map I)) (bb (an (Nat.ble (0+l.length*1) (len (l.map I))) (Au Ah (Aq (l.length*1) (Am 0 (l.map I))))) (some (Value.tuple ⟨[(Sl.v 1 (Sl.mk l.length 0 (Aq (l.length*1) (Am 0 (l.map I))))),(.int .i64 (0:Int))]⟩)) none) none=some (Value.tuple ⟨[S 0 l,I 0]⟩):=by
 have h1:Aq (l.length*1) (Am 0 (l.map I))=l.map I:=by rw[Cg,Bz,List.drop_zero,Nat.mul_one];exact List.take_of_length_le (by simp)
 have h2:Nat.ble (0+l.length*1) (len (l.map I))=true:=Nat.ble_eq_true_of_le (by rw[AV];simp)
 rw[h1,h2,Jv];rfl
theorem eqW:∀ (a b:List Nat),a.length=b.length→Cj (W a) (W b)=some (decide (a=b))
 | [],[],_=>rfl
 | [],y::b,h=>by simp at h
 | x::a,[],h=>by simp at h
 | x :: a, y :: b, h => by
  have ih:=eqW a b (by simpa using h)
  show oo (some (Bd (Int.ofNat x) (Int.ofNat y))) none (fun p=>oo (Cj (W a) (W b)) none fun c=>some (an p c))=_
  rw[ih,Ac,Ac,CF,Lr]
  congr 1
  by_cases h1:x=y <;> by_cases h2:a=b <;> simp[h1,h2] <;> omega
theorem WP:∀ (b:List Nat),Bo (W (List.replicate b.length 0)) (W b)=true
 | []=>rfl
 | x :: b => by
  show an true (Bo (W (List.replicate b.length 0)) (W b))=true
  rw[WP b];rfl
theorem oH {b:List Nat} (h:b.length=14):Nr UD (W b)=true:=by
 have e:Nr UD (W b)=Bo (W (List.replicate 14 0)) (W b):=by kernel_rfl
 have:=WP b
 rw[e];rw[h] at this;exact this
theorem Acn (b:Bool):bq true b=b:=rfl
def oI (b:List Nat):Nat→List (Int×Int)→List Int
 | _,[]=>[]
 | i,p::C=>(if pass b p=b then [Int.ofNat i] else [])++oI (pass b p) (i+1) C
theorem l11 (m n fl N:Nat) (C:List (Int×Int)) (hN:N≤7) (hC:Gw N C) (hCl:C.length < 1000):∀ (d w i:Nat) (b:List Nat) (l:List Int) (c:Nat),i+d=C.length→d < w→wd b→c / 2=l.length→c % 2=0→l.length≤i →
 Ov (BI (m+1)) n w l.length c (cl fl C) (Int.ofNat C.length) (Int.ofNat i) (l.map I) (W b)=some (.tuple ⟨[S 0 (l++oI b i (C.drop i)),I 0]⟩)
 | _,0,_,_,_,_,_,h,_,_,_,_=>by omega
 | 0, w + 1, i, b, l, c, hd, _, hb, hc, hc2, hli => by
  show Ou (BI (m+1)) n (Ov (BI (m+1)) n w) _ _ _ _ _ _ _=_
  unfold Ou
  rw[Jv,Ak,Dy,Ak,CY (by omega),AA,List.drop_eq_nil_of_le (by omega)]
  unfold QN oI
  rw[List.append_nil]
  exact AaD l
 | d + 1, w + 1, i, b, l, c, hd, hw, hb, hc, hc2, hli => by
  have hlt:i < C.length:=by omega
  obtain⟨g1,g2⟩:=JP C i hlt
  have e:C.drop i=C[i]::C.drop (i+1):=List.drop_eq_getElem_cons hlt
  have hbb:Nat.ble (i*2+2) (len (pc C))=true:=by rw[ble_eq,AV,Gu];simp;omega
  have hl:(W b).length=14:=by rw[FY];exact hb.1
  have hw2:=KT hb C[i]
  have hl2:(W (pass b C[i])).length=14:=by rw[FY];exact hw2.1
  have q:=p51 m b hb C[i] N (hC _ (List.getElem_mem hlt)) hN
  have hcl2:Au closed2 [(.agg ⟨W b⟩:Value),(.agg ⟨[(.int .i64 C[i].1),(.int .i64 C[i].2)]⟩)]=true:=by
   show an (Au Ah (W b)) _=true
   rw[Dy];rfl
  have hq:=eqW (pass b C[i]) b (by rw[hw2.1,hb.1])
  rw[e]
  show Ou (BI (m+1)) n (Ov (BI (m+1)) n w) _ _ _ _ _ _ _=some (.tuple ⟨[S 0 (l++((if pass b C[i]=b then [Int.ofNat i] else [])++oI (pass b C[i]) (i+1) (C.drop (i+1)))),I 0]⟩)
  unfold Ou
  rw[Jv,Dy,C8 hlt]
  simp only[Ak,Cx,Ac,LZ,M8,blt_eq,hlt,decide_true,CF,Bool.true_and,hbb,BZ,g1,g2,BP,Wx hl,Nf hl,q,RL,hcl2]
  simp only[←CF,UK hl2 (Dy _),UJ hl2,Wy hl2 Gv (Nc _),O0 hl2 Gv,Dy,Ak,Wx hl2,Nf hl2,oH hw2.1,hq,Ac,Acn]
  by_cases g:pass b C[i]=b
  ·have ih:=l11 m n fl N C hN hC hCl d w (i+1) (pass b C[i]) (l++[Int.ofNat i]) (2*(l.length+1)+bb false 1 0) (by omega) (by omega) hw2 (by rw[O7];show (2*(l.length+1)+0) / 2=l.length+1;omega) (by show (2*(l.length+1)+0) % 2=0;omega) (by rw[O7];omega)
   rw[O7,←List.append_cons] at ih
   rw[decide_eq_true g,if_pos g,Ak,Un hc hc2 (by omega),Ak,X7,Jv,Ak]
   unfold Pi
   simp only[Wx hl2,Nf hl2,Ak,UJ hl2,Wy hl2 hl (Nc _),O0 hl2 hl,Dy,Jv,DC i (by omega:i < 1000000)]
   exact ih
  ·have ih:=l11 m n fl N C hN hC hCl d w (i+1) (pass b C[i]) l c (by omega) (by omega) hw2 hc hc2 (by omega)
   rw[decide_eq_false g,if_neg g,AA,List.nil_append]
   unfold Pi
   simp only[Wx hl2,Nf hl2,Ak,UJ hl2,Wy hl2 hl (Nc _),O0 hl2 hl,Dy,Jv,DC i (by omega:i < 1000000)]
   exact ih
end Go.TbWM
set_option maxRecDepth 100000
set_option maxHeartbeats 4000000
namespace Go.TbWM
open Go Go.Sp Go.TbW Go.TM
theorem Uo:∀ (k:Nat) (C:List (Int×Int)),(pc C).drop (k*2)=pc (C.drop k)
 | 0,C=>rfl
 | k+1,[]=>by simp[pc]
 | k + 1, p :: C => by
  rw[show (k+1)*2=k*2+1+1 by omega]
  show ((pc C).drop (k*2))=pc (C.drop k)
  exact Uo k C
theorem oJ (C:List (Int×Int)) (k:Nat):(⟨C.length - k,bb (an (Nat.beq C.length C.length) (Dp false (Nat.beq 0 1))) 1 0,Aq ((C.length - k)*2) (Am (k*2) (pc C))⟩:Sl)=cl 0 (C.drop k):=by
 have e1:Aq ((C.length - k)*2) (Am (k*2) (pc C))=pc (C.drop k):=by
  rw[Cg,Bz,Uo];exact List.take_of_length_le (by rw[Gu,List.length_drop];exact Nat.le_refl _)
 have e2:bb (an (Nat.beq C.length C.length) (Dp false (Nat.beq 0 1))) 1 0=0:=by
  have:Nat.beq C.length C.length=true:=Nat.beq_refl _
  rw[this];rfl
 rw[e1,e2];unfold cl;rw[List.length_drop]
def LU (b:List Nat) (N:Nat):Prop:=∀ m,m < 128→Pg (Fp b N m)
noncomputable def oK (N:Nat) (b:List Nat):Nat→List (Int×Int)→List Int
 | _,[]=>[]
 | i,p::C=>bb (JN (LU (Fb b C) N)) [] [Int.ofNat i]++oK N (pass b p) (i+1) C
theorem UQ {N:Nat} (h1:1≤N) {b:List Nat} {z:Int} (hb:wd b) (h:nY N b z):AY z 0=JN (LU b N):=by
 rcases R8 h1 h with⟨rfl,hs⟩ | ⟨m0,rfl,hm,hns,_⟩
 ·rw[Fh (show LU b N from hs)];rfl
 ·rw[FK (fun h=>hns (h m0 hm)),OW]
  show ¬ ((m0:Int) < 0)
  omega
theorem oL (m n N:Nat) (C:List (Int×Int)) (h1:1≤N) (hN:N≤7) (hC:Gw N C) (hCl:C.length < 1000):∀ (d w i:Nat) (b:List Nat) (l:List Int) (c:Nat),i+d=C.length→d < w→wd b→c / 2=l.length→c % 2=0→l.length≤i →
 Ox (BI (m+2)) n w l.length c (cl 0 C) (Int.ofNat C.length) (Int.ofNat i) (Int.ofNat N) (cl 0 C) (l.map I) (W b)=some (.tuple ⟨[S 0 (l++oK N b i (C.drop i)),I 0]⟩)
 | _,0,_,_,_,_,_,h,_,_,_,_=>by omega
 | 0, w + 1, i, b, l, c, hd, _, hb, hc, hc2, hli => by
  show Ow (BI (m+2)) n (Ox (BI (m+2)) n w) _ _ _ _ _ _ _ _ _=_
  unfold Ow
  rw[Jv,Ak,Dy,Ak,CY (by omega),AA,List.drop_eq_nil_of_le (by omega)]
  unfold QO oK
  rw[List.append_nil]
  exact AaD l
 | d + 1, w + 1, i, b, l, c, hd, hw, hb, hc, hc2, hli => by
  have hlt:i < C.length:=by omega
  obtain⟨g1,g2⟩:=JP C i hlt
  have e:C.drop i=C[i]::C.drop (i+1):=List.drop_eq_getElem_cons hlt
  have hbb:Nat.ble (i*2+2) (len (pc C))=true:=by rw[ble_eq,AV,Gu];simp;omega
  have hl:(W b).length=14:=by rw[FY];exact hb.1
  have hw2:=KT hb C[i]
  have hl2:(W (pass b C[i])).length=14:=by rw[FY];exact hw2.1
  have q:=p51 (m+1) b hb C[i] N (hC _ (List.getElem_mem hlt)) hN
  have hcl2:Au closed2 [(.agg ⟨W b⟩:Value),(.agg ⟨[(.int .i64 C[i].1),(.int .i64 C[i].2)]⟩)]=true:=by
   show an (Au Ah (W b)) _=true
   rw[Dy];rfl
  have hCd:Gw N (C.drop (i+1)):=fun x hx=>hC x (List.mem_of_mem_drop hx)
  have q2:BI (m+2) 60 [.agg ⟨W b⟩,Sl.v 2 (cl 0 (C.drop (i+1)))]=some (.agg ⟨W (Fb b (C.drop (i+1)))⟩):=p44 m 0 N b hb (C.drop (i+1)) hN hCd (by rw[List.length_drop];omega)
  have hw3:=FX (C.drop (i+1)) b hb
  have hl3:(W (Fb b (C.drop (i+1)))).length=14:=by rw[FY];exact hw3.1
  have hcl3:Au closed2 [(.agg ⟨W b⟩:Value),Sl.v 2 (cl 0 (C.drop (i+1)))]=true:=by
   show an (Au Ah (W b)) _=true
   rw[Dy];rfl
  have hcl4:Au closed2 [(.agg ⟨W (Fb b (C.drop (i+1)))⟩:Value),(.int .i64 (Int.ofNat N))]=true:=by
   show an (Au Ah (W (Fb b (C.drop (i+1))))) _=true
   rw[Dy];rfl
  obtain⟨z,hz,hbad⟩:=p22 m N h1 hN _ hw3
  have hz2:=UQ h1 hw3 hbad
  have hk:Nat.ble (i+1) C.length=true:=Nat.ble_eq_true_of_le hlt
  rw[e]
  show Ow (BI (m+2)) n (Ox (BI (m+2)) n w) _ _ _ _ _ _ _ _ _=some (.tuple ⟨[S 0 (l++(bb (JN (LU (Fb b (C.drop (i+1))) N)) [] [Int.ofNat i]++oK N (pass b C[i]) (i+1) (C.drop (i+1)))),I 0]⟩)
  unfold Ow
  rw[Jv,Dy,C8 hlt]
  have hfl:(cl 0 C).fl=0:=rfl
  simp only[Ak,Cx,Ac,LZ,M8,hfl,show nt (Nat.beq 0 2)=true from rfl,blt_eq,hlt,decide_true,CF,Bool.true_and,hbb,BZ,g1,g2,BP,Wx hl,Nf hl,DC i (by omega:i < 1000000),hk]
  simp only[←CF,oJ,q2,Ac,RL,UK hl3 (Dy _),Ak,hcl3,hz,BP,hcl4,hz2]
  by_cases g:LU (Fb b (C.drop (i+1))) N
  ·have ih  := oL m n N C h1 hN hC hCl d w (i+1) (pass b C[i]) l c (by omega) (by omega) hw2 hc hc2 (by omega)
   rw[Fh g,show nt true=false from rfl,AA,Ak,List.nil_append]
   unfold Pj
   simp only[Wx hl,Nf hl,Ak,q,Ac,RL,hcl2,UK hl2 (Dy _),UJ hl2,Wy hl2 hl (Nc _),O0 hl2 hl,Dy,Jv,DC i (by omega:i < 1000000)]
   exact ih
  ·have ih  := oL m n N C h1 hN hC hCl d w (i+1) (pass b C[i]) (l++[Int.ofNat i]) (2*(l.length+1)+bb false 1 0) (by omega) (by omega) hw2 (by rw[O7];show (2*(l.length+1)+0) / 2=l.length+1;omega) (by show (2*(l.length+1)+0) % 2=0;omega) (by rw[O7];omega)
   rw[O7,←List.append_cons] at ih
   rw[FK g,show nt false=true from rfl,Ak,AA,Un hc hc2 (by omega),Ak,X7,Jv,Ak]
   unfold Pj
   simp only[Wx hl,Nf hl,Ak,q,Ac,RL,hcl2,UK hl2 (Dy _),UJ hl2,Wy hl2 hl (Nc _),O0 hl2 hl,Dy,Jv,DC i (by omega:i < 1000000)]
   exact ih
section
variable {N:Nat}
noncomputable def act (N:Nat) (C:List (Int×Int)) (k:Nat):Bool:=JN (∃ q∈Eb N N [],KZ (runs q (C.take k)) (C.getD k (0,0)))
noncomputable def Xa (N:Nat) (C:List (Int×Int)) (k:Nat):Bool:=JN (∃ q∈Eb N N [],¬ Pg (runs q (C.take k++C.drop (k+1))))
noncomputable def pick (f:Nat→Bool):Nat→Nat→List Int
 | _,0=>[]
 | i,d+1=>bb (f i) [Int.ofNat i] []++pick f (i+1) d
theorem Uq (hN : N ≤ 7) {b : List Nat} (hb : Je N b) (C : List (Int × Int)) (hC : Gw N C) : ∀ (d i : Nat), i + d = C.length → oI (Fb b (C.take i)) i (C.drop i) = pick (fun k => !act N C k) i d
 | 0,i,h=>by rw[List.drop_eq_nil_of_le (by omega)];rfl
 | d + 1, i, h => by
  have hlt:i < C.length:=by omega
  have e:C.drop i=C[i]::C.drop (i+1):=List.drop_eq_getElem_cons hlt
  have et:C.take (i+1)=C.take i++[C[i]]:=by rw[List.take_succ_eq_append_getElem hlt]
  have hg:C.getD i (0,0)=C[i]:=by simp[List.getD_eq_getElem?_getD,hlt]
  have ih:=Uq hN hb C hC d (i+1) (by omega)
  rw[et,O6] at ih
  have hiff:=UO (N:=N) hN hb (D:=C.take i) (p:=C[i]) (fun q hq=>hC q (List.mem_of_mem_take hq)) (hC _ (List.getElem_mem hlt))
  rw[e]
  show (if pass (Fb b (C.take i)) C[i]=Fb b (C.take i) then [Int.ofNat i] else [])++oI (pass (Fb b (C.take i)) C[i]) (i+1) (C.drop (i+1))=bb (!act N C i) [Int.ofNat i] []++pick (fun k=>!act N C k) (i+1) d
  rw[←ih]
  congr 1
  unfold act
  rw[hg]
  by_cases g:pass (Fb b (C.take i)) C[i]=Fb b (C.take i)
  ·rw[if_pos g,FK (hiff.1 g)];rfl
  ·rw[if_neg g,Fh (Classical.byContradiction fun k=>g (hiff.2 k))];rfl
theorem WQ {D:List (Int×Int)} (h1:1≤N) (hN:N≤7) {b:List Nat} (hb:Je N b) (hD:Gw N D):LU (Fb b D) N↔∀ q∈Eb N N [],Pg (runs q D):=by
 unfold LU
 rw[Jj (FX D b hb.1) h1,LY h1 hN hb hD,Kc hD]
theorem Uw (h1:1≤N) (hN:N≤7) {b:List Nat} (hb:Je N b) (C:List (Int×Int)) (hC:Gw N C):∀ (d i:Nat),i+d=C.length→oK N (Fb b (C.take i)) i (C.drop i)=pick (Xa N C) i d
 | 0,i,h=>by rw[List.drop_eq_nil_of_le (by omega)];rfl
 | d + 1, i, h => by
  have hlt:i < C.length:=by omega
  have e:C.drop i=C[i]::C.drop (i+1):=List.drop_eq_getElem_cons hlt
  have et:C.take (i+1)=C.take i++[C[i]]:=by rw[List.take_succ_eq_append_getElem hlt]
  have ih:=Uw h1 hN hb C hC d (i+1) (by omega)
  rw[et,O6] at ih
  have hiff:=WQ (N:=N) (D:=C.take i++C.drop (i+1)) h1 hN hb (fun q hq=>by
   rcases List.mem_append.1 hq with h | h
   ·exact hC q (List.mem_of_mem_take h)
   ·exact hC q (List.mem_of_mem_drop h))
  rw[O6] at hiff
  rw[e]
  show bb (JN (LU (Fb (Fb b (C.take i)) (C.drop (i+1))) N)) [] [Int.ofNat i]++oK N (pass (Fb b (C.take i)) C[i]) (i+1) (C.drop (i+1))=bb (Xa N C i) [Int.ofNat i] []++pick (Xa N C) (i+1) d
  rw[←ih]
  congr 1
  unfold Xa
  by_cases g:LU (Fb (Fb b (C.take i)) (C.drop (i+1))) N
  ·rw[Fh g,FK (fun ⟨q,hq,k⟩=>k (hiff.1 g q hq))];rfl
  ·rw[FK g,Fh (Classical.byContradiction fun k=>g (hiff.2 fun q hq=>Classical.byContradiction fun k2=>k ⟨q,hq,k2⟩))];rfl
theorem p11 (n:Nat) (C:List (Int×Int)) (h1:1≤N) (hN:N≤7) (hl:C.length≤24) (hC:Gw N C):BI (n+4) 11 [tb 0 (Int.ofNat N) C]=some (.tuple ⟨[S 0 (pick (fun k=>!act N C k) 0 C.length),I 0]⟩):=by
 obtain⟨b,hb,hall⟩:=O1 N h1 hN
 have e:BI (n+4) 11 [tb 0 (Int.ofNat N) C]=Xc (BI (n+3)) 1000000 (Int.ofNat N) (cl 0 C):=by kernel_rfl
 have e1:=p40 (n+1) 0 (Int.ofNat N) C
 unfold tb at e1
 rw[OZ h1 hN hl hC] at e1
 have hw:=hb.1
 have hl1:(W b).length=14:=by rw[FY];exact hw.1
 have h:=l11 (n+2) 1000000 0 N C hN hC (by omega) C.length 1000000 0 b [] 0 (by omega) (by omega) hw rfl rfl (by simp)
 rw[List.drop_zero,List.nil_append,show oI b 0 C=pick (fun k=>!act N C k) 0 C.length from Uq hN hb C hC C.length 0 (by omega)] at h
 rw[e];unfold Xc
 rw[e1,hall (n+2)]
 simp only[Ac,BP,OX,AA,RL,UK hl1 (Dy _),UJ hl1,Wy hl1 Gv (Nc _),O0 hl1 Gv,Dy,Ak]
 rw[show an true true=true from rfl,Ak]
 exact h
theorem Acp (n:Nat) (C:List (Int×Int)) (h1:1≤N) (hN:N≤7) (hl:C.length≤24) (hC:Gw N C) (hs:KW N C):BI (n+6) 13 [tb 0 (Int.ofNat N) C]=some (.tuple ⟨[S 0 (pick (Xa N C) 0 C.length),I 0]⟩):=by
 obtain⟨b,hb,hall⟩:=O1 N h1 hN
 have e:BI (n+6) 13 [tb 0 (Int.ofNat N) C]=UI (BI (n+5)) 1000000 (Int.ofNat N) (cl 0 C):=by kernel_rfl
 have e1:=WK (n+1) 0 N C h1 hN hl hC (OZ h1 hN hl hC)
 unfold tb at e1
 rw[Fh hs] at e1
 have hw:=hb.1
 have hl1:(W b).length=14:=by rw[FY];exact hw.1
 have h:=oL (n+3) 1000000 N C h1 hN hC (by omega) C.length 1000000 0 b [] 0 (by omega) (by omega) hw rfl rfl (by simp)
 rw[List.drop_zero,List.nil_append,show oK N b 0 C=pick (Xa N C) 0 C.length from Uw h1 hN hb C hC C.length 0 (by omega)] at h
 rw[e];unfold UI
 rw[e1,hall (n+4)]
 simp only[Ac,FW,Dj,EG,BU,BP,OX,AA,show nt true=false from rfl,RL,UK hl1 (Dy _),UJ hl1,Wy hl1 Gv (Nc _),O0 hl1 Gv,Dy,Ak]
 rw[show an true true=true from rfl,Ak]
 exact h
theorem Acr (n:Nat) (C:List (Int×Int)) (h1:1≤N) (hN:N≤7) (hl:C.length≤24) (hC:Gw N C) (hs:¬ KW N C):BI (n+6) 13 [tb 0 (Int.ofNat N) C]=some (.tuple ⟨[S 2 [],I 12]⟩):=by
 have e:BI (n+6) 13 [tb 0 (Int.ofNat N) C]=UI (BI (n+5)) 1000000 (Int.ofNat N) (cl 0 C):=by kernel_rfl
 have e1:=WK (n+1) 0 N C h1 hN hl hC (OZ h1 hN hl hC)
 unfold tb at e1
 rw[FK hs] at e1
 rw[e];unfold UI
 rw[e1]
 simp only[Ac,FW,Dj,EG,BU,BP,OX,AA,show nt false=true from rfl,Ak]
 rfl
end
end Go.TbWM
set_option maxRecDepth 100000
set_option maxHeartbeats 4000000
namespace Go.TbWM
open Go Go.Sp Go.TbW Go.TM
def fl0:List Int→Nat
 | []=>2
 | _::_=>0
def slN (r:List Int):Sl:=sl (fl0 r) r
def pt (i:Nat):Value:=.pointer (some ⟨i,0,none⟩)
theorem q17 (n:Nat) (r:List Int):BI (n+1) 76 [Sl.v 1 (slN r)]=some (Sl.v 1 (KY 1 (slN r))):=by
 have e:BI (n+1) 76 [Sl.v 1 (slN r)]=XP (BI n) 1000000 (slN r):=by kernel_rfl
 rw[e];unfold XP
 cases r with
 | nil=>rfl
 | cons a r=>rfl
theorem QG (r:List Int):(KY 1 (slN r)).n=r.length∧(KY 1 (slN r)).cs=r.map I∧Dp (Nat.beq (KY 1 (slN r)).fl 1) (Nat.beq (KY 1 (slN r)).fl 2)=true:=by
 cases r with
 | nil=>exact⟨rfl,rfl,rfl⟩
 | cons a r =>
  refine⟨rfl,?_,rfl⟩
  show Aq (((a::r).length - 0)*1) (Am (0*1) ((a::r).map I))=_
  rw[Cg,Bz,Nat.zero_mul,List.drop_zero,Nat.sub_zero,Nat.mul_one,List.take_of_length_le (by simp)]
theorem Ux (r:List Int) (z:Int):(⟨(KY 1 (slN r)).n+1,0,Aq (((KY 1 (slN r)).n+1)*1) (Am 0 (Br (KY 1 (slN r)).cs [I z]))⟩:Sl)=slN (r++[z])∧an (Nat.ble (0+((KY 1 (slN r)).n+1)*1) (len (Br (KY 1 (slN r)).cs ([I z]:List Value)))) (Au Ah (Aq (((KY 1 (slN r)).n+1)*1) (Am 0 (Br (KY 1 (slN r)).cs ([I z]:List Value)))))=true:=by
 obtain⟨h1,h2,_⟩:=QG r
 have e1:Br (r.map I) [I z]=(r++[z]).map I:=by rw[BH];simp
 have e2:Aq ((r.length+1)*1) (Am 0 ((r++[z]).map I))=(r++[z]).map I:=by
  rw[Cg,Bz,List.drop_zero,Nat.mul_one,List.take_of_length_le (by simp)]
 rw[h1,h2,e1,e2]
 constructor
 ·have e3:(r++[z]).length=r.length+1:=by simp
  have e4:fl0 (r++[z])=0:=by
   cases h:r++[z] with
   | nil=>rw[h] at e3;simp at e3
   | cons a m=>rfl
  unfold slN sl
  rw[e3,e4]
 ·have e5:Nat.ble (0+(r.length+1)*1) (len ((r++[z]).map I))=true:=Nat.ble_eq_true_of_le (by rw[AV];simp)
  rw[e5,Jv];rfl


def Bp (n:Nat) (f:Nat→Bool):List Value:=(List.range n).map fun j=>.bool (f j)
theorem WR (n:Nat) (f:Nat→Bool):(Bp n f).length=n:=by unfold Bp;simp
theorem BO (n:Nat) (f:Nat→Bool):Au Ah (Bp n f)=true:=by
 rw[Bh,List.all_eq_true]
 intro v hv
 obtain⟨b,_,rfl⟩:=List.mem_map.1 hv
 rfl
theorem K3 {n j:Nat} (f:Nat→Bool) (h:j < n):AL (Bp n f) (0+j*1)=some (.bool (f j)):=by rw[BZ,Nat.zero_add,Nat.mul_one];simp[Bp,h]
theorem Iz {n:Nat} {f g:Nat→Bool} (h:∀ j,j < n→f j=g j):Bp n f=Bp n g:=List.map_congr_left fun j hj=>by rw[h j (List.mem_range.1 hj)]
theorem K4 {n j:Nat} (f:Nat→Bool) (v:Bool) (h:j < n):BM ([.bool v]:List Value) (0+j*1) (Bp n f)=Bp n (fun i=>if i=j then v else f i):=by
 rw[Nat.zero_add,Nat.mul_one,Iy _ _ _ (by rw[WR];exact h)]
 unfold Bp
 apply List.ext_getElem (by simp)
 intro i h1 h2
 simp only[List.getElem_set,List.getElem_map,List.getElem_range]
 by_cases e:j=i
 ·subst e;simp
 ·rw[if_neg e,if_neg (fun h=>e h.symm)]
theorem QH {n j:Nat} (f:Nat→Bool) (h:j < n):an (Nat.ble (0+j*1+1) (len (Bp n f))) true=true:=by
 rw[CF,Bool.and_true,AV,WR];exact Nat.ble_eq_true_of_le (by omega)
noncomputable def cc (n:Nat):Nat:=2*n+bb true 1 0
theorem bK (n:Nat) (f:Nat→Bool):Dp (Nat.ble 2 (cc n)) (MQ (Bp n f))=true:=by
 cases n with
 | zero=>rfl
 | succ n=>rw[show Nat.ble 2 (cc (n+1))=true from Nat.ble_eq_true_of_le (by show 2≤2*(n+1)+1;omega)];rfl
theorem zTB {n:Nat} (h:n < 30):AF ([.bool false]:List Value) n=Bp n (fun _=>false):=by
 rw[Sb n h];unfold DB Bp
 apply List.ext_getElem (by simp)
 intro i h1 h2
 simp
def slv (i N c:Nat):Value:=.slice (some ⟨i,0,some 1⟩) N c
section
variable {N m:Nat} {C:List (Int×Int)}
noncomputable def bn (C:List (Int×Int)) (p:List Int) (k:Nat):Bool:=!JN (Pg (lr ((k:Int) - 1) 0 C p))
noncomputable def ac (C:List (Int×Int)) (p:List Int) (k:Nat):Bool:=JN (KZ (runs p (C.take k)) (C.getD k (0,0)))
noncomputable def o5 (N:Nat) (C:List (Int×Int)) (i j:Nat) (s:(Nat→Bool)×(Nat→Bool)):List Value:=[.agg ⟨[I (.ofNat N),Sl.v 2 (cl 0 C)]⟩,.agg ⟨[slv i (C.length+1) (cc (C.length+1))]⟩,.agg ⟨[slv j C.length (cc C.length)]⟩,.agg ⟨Bp (C.length+1) s.1⟩,.agg ⟨Bp C.length s.2⟩]
theorem oM {D:List Bool} {k:Nat} (h:k < D.length):AL (DB D) (k*1)=some (.bool (D.getD k false)):=by
 rw[BZ,Nat.mul_one];simp[DB,List.getD_eq_getElem?_getD,h]
theorem oN (pu:Af) (M:Nat) (ih0:Sl→Int→Int→Sl→Nat→Nat→Nat→Nat→List Value→List Value→Option Value) {p:List Int} {D:List Bool} (hD:D.length=m) (hm:m≤24) (i:Int) (nb cb cm:Nat) (g:Nat→Bool):∀ (d w k:Nat) (f:Nat→Bool),k+d=m→d < w →
 Hy pu M ih0 w (sl 0 p) i ⟨m,0,DB D⟩ (Int.ofNat m) (Int.ofNat k) (Int.ofNat N) (cl 0 C) nb cb m cm (Bp nb g) (Bp m f)=Ha pu M ih0 (sl 0 p) i (Int.ofNat N) (cl 0 C) nb cb m cm (Bp nb g) (Bp m (fun j=>f j || (decide (k≤j) && D.getD j false && decide (i < 0))))
 | _,0,_,_,_,h=>by omega
 | 0, w + 1, k, f, hd, _ => by
  show Hw pu M ih0 (Hy pu M ih0 w) _ _ _ _ _ _ _ _ _ _ _ _ _=_
  unfold Hw
  rw[BO,BO,Ak,Ak,CY (by omega),AA]
  congr 1
  apply Iz
  intro j hj
  rw[decide_eq_false (by omega)];simp
 | d + 1, w + 1, k, f, hd, hw => by
  have hk:k < m:=by omega
  have hkD:k < D.length:=by omega
  show Hw pu M ih0 (Hy pu M ih0 w) _ _ _ _ _ _ _ _ _ _ _ _ _=_
  unfold Hw
  have e3:∀ v,v=(f k || (D.getD k false && decide (i < 0)))→Hy pu M ih0 w (sl 0 p) i ⟨m,0,DB D⟩ (Int.ofNat m) (Int.ofNat (k+1)) (Int.ofNat N) (cl 0 C) nb cb m cm (Bp nb g) (Bp m (fun j=>if j=k then v else f j))=Ha pu M ih0 (sl 0 p) i (Int.ofNat N) (cl 0 C) nb cb m cm (Bp nb g) (Bp m (fun j=>f j || (decide (k≤j) && D.getD j false && decide (i < 0)))):=by
   intro v hv
   rw[oN pu M ih0 hD hm i nb cb cm g d w (k+1) _ (by omega) (by omega)]
   congr 1
   apply Iz
   intro j hj
   by_cases e:j=k
   ·subst e
    rw[if_pos rfl,hv,decide_eq_false (show ¬ j+1≤j by omega),decide_eq_true (Nat.le_refl j)];simp
   ·rw[if_neg e,show decide (k+1≤j)=decide (k≤j) from decide_eq_decide.2 (by omega)]
  rw[BO,BO,Ak,Ak,C8 hk,Ak,Cx,Ac,show an (Nat.blt k m) true=true from by rw[CF,blt_eq,decide_eq_true hk];rfl,Ak,oM hkD,Ac,BU,Ac,Ak,K3 f hk,Ac,BU,Ac,Ak,QH f hk,Ak,K4 f _ hk,BO,Ak,DC k (by omega),Ak,K4 f _ hk,BO,Ak,K4 f _ hk,BO,Ak]
  cases h1:f k with
  | true=>rw[Ak];exact e3 true (by rw[h1];rfl)
  | false =>
   rw[AA]
   cases h2:D.getD k false with
   | true=>rw[Ak];exact e3 _ (by rw[h1,h2,JY];simp)
   | false=>rw[AA];exact e3 false (by rw[h1,h2];rfl)
theorem AaE (n M:Nat) (h7:N≤7) (hl:C.length≤24) (hC:Gw N C) {p:List Int} (hp:p.length=N) (hM:1000 < M):∀ (d w i:Nat) (g f:Nat→Bool),i+d=C.length→d < w →
 Dn (BI (n+3)) M w (sl 0 p) (Int.ofNat i) (Int.ofNat N) (cl 0 C) (C.length+1) (cc (C.length+1)) C.length (cc C.length) (Bp (C.length+1) g) (Bp C.length f)=some (.tuple ⟨.tuple ⟨[]⟩::o5 N C 4 5 (fun j=>g j || (decide (i+1≤j) && bn C p j),f)⟩)
 | _,0,_,_,_,_,h=>by omega
 | 0, w + 1, i, g, f, hd, _ => by
  show FN (BI (n+3)) M (Dn (BI (n+3)) M w) _ _ _ _ _ _ _ _ _ _=_
  unfold FN
  rw[BO,BO,Ak,Ak,LZ,CY (by omega),AA]
  unfold o5 slv
  rw[Iz (n:=C.length+1) (f:=fun j=>g j || (decide (i+1≤j) && bn C p j)) (g:=g) fun j hj=>by rw[decide_eq_false (by omega)];simp]
 | d + 1, w + 1, i, g, f, hd, hw => by
  have hlt:i < C.length:=by omega
  have h32:=p32 (n+2) 0 0 N (Int.ofNat i) C p h7 hl hC hp
  have h33:BI (n+3) 33 [Sl.v 1 (sl 0 (lr (Int.ofNat i) 0 C p))]=some (.bool (JN (Pg (lr (Int.ofNat i) 0 C p)))):=p13 n 0 _ (by rw[QE];omega)
  have hk:i+1 < C.length+1:=by omega
  have hD:=QF (Int.ofNat i) C 0 p
  have hneg:decide ((Int.ofNat i) < 0)=false:=decide_eq_false (by show ¬ ((i:Int) < 0);omega)
  have hbn:bn C p (i+1) = !JN (Pg (lr (Int.ofNat i) 0 C p)):=by
   unfold bn;rw[show (((i+1:Nat):Int) - 1)=Int.ofNat i from by show ((i+1:Nat):Int) - 1=(i:Int);omega]
  have e3:∀ v,v=(g (i+1) || bn C p (i+1))→Gs (BI (n+3)) M (Dn (BI (n+3)) M w) (sl 0 p) (Int.ofNat i) ⟨C.length,0,DB (ld (Int.ofNat i) 0 C p)⟩ (Int.ofNat N) (cl 0 C) (C.length+1) (cc (C.length+1)) C.length (cc C.length) (Bp (C.length+1) (fun j=>if j=i+1 then v else g j)) (Bp C.length f)=some (.tuple ⟨.tuple ⟨[]⟩::o5 N C 4 5 (fun j=>g j || (decide (i+1≤j) && bn C p j),f)⟩):=by
   intro v hv
   unfold Gs
   rw[BO,BO,Ak,Ak]
   refine Eq.trans (oN (N:=N) (C:=C) (BI (n+3)) M (Dn (BI (n+3)) M w) hD hl (Int.ofNat i) (C.length+1) (cc (C.length+1)) (cc C.length) _ C.length M 0 f (by omega) (by omega)) ?_
   unfold Ha
   rw[BO,BO,Ak,Ak,DC i (by omega),hneg,Iz (n:=C.length) (g:=f) fun j hj=>by simp]
   rw[AaE n M h7 hl hC hp hM d w (i+1) _ f (by omega) (by omega)]
   unfold o5
   rw[Iz (n:=C.length+1) (g:=fun j=>g j || (decide (i+1≤j) && bn C p j)) fun j hj=>by
    show ((if j=i+1 then v else g j) || (decide (i+1+1≤j) && bn C p j))=(g j || (decide (i+1≤j) && bn C p j))
    by_cases e:j=i+1
    ·subst e
     rw[if_pos rfl,hv,decide_eq_false (show ¬ i+1+1≤i+1 by omega),decide_eq_true (Nat.le_refl (i+1))];simp
    ·rw[if_neg e,show decide (i+1+1≤j)=decide (i+1≤j) from decide_eq_decide.2 (by omega)]]
  show FN (BI (n+3)) M (Dn (BI (n+3)) M w) _ _ _ _ _ _ _ _ _ _=_
  unfold FN
  unfold tb S at h32
  rw[BO,BO,Ak,Ak,LZ,C8 hlt,Ak,h32,Ac,FW,Ac,Dj,Dj,EG,Dc,Ac,Dc,Ac,DC i (by omega),Cx,Ac,Ac,show an (Nat.blt (i+1) (C.length+1)) true=true from by rw[CF,blt_eq,decide_eq_true hk];rfl,Ak,K3 g hk,Ac,BU,Ac,Ak,QH g hk,Ak,K4 g _ hk,BO,Ak,h33,Ac,BU,Ac,Ak,Ak,K4 g _ hk,BO,Ak]
  cases h1:g (i+1) with
  | true=>rw[Ak];exact e3 true (by rw[h1];rfl)
  | false=>rw[AA];exact e3 _ (by rw[h1,hbn,Km];rfl)
noncomputable def WS (C:List (Int×Int)) (s:(Nat→Bool)×(Nat→Bool)) (p:List Int):(Nat→Bool)×(Nat→Bool):=(fun j=>s.1 j || bn C p j,fun j=>s.2 j || ac C p j)
theorem WT {i j:Nat} {s t:(Nat→Bool)×(Nat→Bool)} (h1:∀ k,k < C.length+1→s.1 k=t.1 k) (h2:∀ k,k < C.length→s.2 k=t.2 k):o5 N C i j s=o5 N C i j t:=by
 unfold o5;rw[Iz h1,Iz h2]
theorem p37 (n:Nat) (h7:N≤7) (hl:C.length≤24) (hC:Gw N C) {p:List Int} (hp:p.length=N) (s:(Nat→Bool)×(Nat→Bool)) :
 BI (n+4) 10370 ([Sl.v 1 (sl 0 p),pt 1,pt 2,pt 3]++o5 N C 4 5 s)=some (.tuple ⟨.tuple ⟨[]⟩::o5 N C 4 5 (WS C s p)⟩):=by
 have e:BI (n+4) 10370 ([Sl.v 1 (sl 0 p),pt 1,pt 2,pt 3]++o5 N C 4 5 s)=Kg (BI (n+3)) 1000000 (sl 0 p) (Int.ofNat N) (cl 0 C) (C.length+1) (cc (C.length+1)) C.length (cc C.length) (Bp (C.length+1) s.1) (Bp C.length s.2):=by kernel_rfl
 obtain⟨g,f⟩:=s
 have h32:=p32 (n+2) 0 0 N (-1) C p h7 hl hC hp
 have h33:BI (n+3) 33 [Sl.v 1 (sl 0 (lr (-1) 0 C p))]=some (.bool (JN (Pg (lr (-1) 0 C p)))):=p13 n 0 _ (by rw[QE];omega)
 have hk:0 < C.length+1:=by omega
 have hD:=QF (-1) C 0 p
 have hbn:bn C p 0 = !JN (Pg (lr (-1) 0 C p)):=rfl
 have w0:Aj .i64 (Int.add (-1:Int) (1:Int))=Int.ofNat 0:=by kernel_rfl
 have e3:∀ v,v=(g 0 || bn C p 0)→Gs (BI (n+3)) 1000000 (Dn (BI (n+3)) 1000000 999999) (sl 0 p) (-1) ⟨C.length,0,DB (ld (-1) 0 C p)⟩ (Int.ofNat N) (cl 0 C) (C.length+1) (cc (C.length+1)) C.length (cc C.length) (Bp (C.length+1) (fun j=>if j=0 then v else g j)) (Bp C.length f)=some (.tuple ⟨.tuple ⟨[]⟩::o5 N C 4 5 (WS C (g,f) p)⟩):=by
  intro v hv
  unfold Gs
  rw[BO,BO,Ak,Ak]
  refine Eq.trans (oN (N:=N) (C:=C) (BI (n+3)) 1000000 (Dn (BI (n+3)) 1000000 999999) hD hl (-1) (C.length+1) (cc (C.length+1)) (cc C.length) _ C.length 1000000 0 f (by omega) (by omega)) ?_
  unfold Ha
  rw[BO,BO,Ak,Ak,w0]
  rw[AaE n 1000000 h7 hl hC hp (by omega) C.length 999999 0 _ _ (by omega) (by omega)]
  congr 4
  apply WT
  ·intro j hj
   show ((if j=0 then v else g j) || (decide (0+1≤j) && bn C p j))=(g j || bn C p j)
   by_cases e:j=0
   ·subst e;rw[if_pos rfl,hv];simp
   ·rw[if_neg e,decide_eq_true (by omega)];simp
  ·intro j hj
   show (f j || (decide (0≤j) && (ld (-1) 0 C p).getD j false && decide ((-1:Int) < 0)))=(f j || ac C p j)
   rw[bJ C 0 j p hj]
   unfold ac
   simp
 rw[e];unfold Kg
 rw[BO,BO,Ak,Ak]
 show FN (BI (n+3)) 1000000 (Dn (BI (n+3)) 1000000 999999) _ _ _ _ _ _ _ _ _ _=_
 unfold FN
 unfold tb S at h32
 rw[BO,BO,Ak,Ak,LZ,show AY (-1) (Int.ofNat C.length)=true from by rw[Ph];show (-1:Int) < (C.length:Int);omega,Ak,h32,Ac,FW,Ac,Dj,Dj,EG,Dc,Ac,Dc,Ac,w0,Cx,Ac,Ac,show an (Nat.blt 0 (C.length+1)) true=true from by rw[CF,blt_eq,decide_eq_true hk];rfl,Ak,K3 g hk,Ac,BU,Ac,Ak,QH g hk,Ak,K4 g _ hk,BO,Ak,h33,Ac,BU,Ac,Ak,Ak,K4 g _ hk,BO,Ak]
 cases h1:g 0 with
 | true=>rw[Ak];exact e3 true (by rw[h1];rfl)
 | false=>rw[AA];exact e3 _ (by rw[h1,hbn,Km];rfl)
noncomputable def KU (C:List (Int×Int)) (s:(Nat→Bool)×(Nat→Bool)) (l:List (List Int)):(Nat→Bool)×(Nat→Bool):=l.foldl (WS C) s
theorem Uy (k:Nat):∀ (l:List (List Int)) (s:(Nat→Bool)×(Nat→Bool)),(KU C s l).1 k=(s.1 k || JN (∃ p∈l,bn C p k=true))∧(KU C s l).2 k=(s.2 k || JN (∃ p∈l,ac C p k=true))
 | [], s => by
  rw[FK (by simp),FK (by simp),Bool.or_false,Bool.or_false];exact⟨rfl,rfl⟩
 | p :: l, s => by
  obtain⟨h1,h2⟩:=Uy k l (WS C s p)
  have e:∀ (q:List Int→Bool),(q p || JN (∃ x∈l,q x=true))=JN (∃ x∈p::l,q x=true):=fun q=>by
   cases h:q p with
   | true=>rw[Bool.true_or,Fh ⟨p,by simp,h⟩]
   | false =>
    rw[Bool.false_or]
    apply Gm
    constructor
    ·rintro⟨x,hx,h3⟩;exact⟨x,by simp[hx],h3⟩
    ·rintro⟨x,hx,h3⟩
     rcases List.mem_cons.1 hx with rfl | hx
     ·rw[h] at h3;cases h3
     ·exact⟨x,hx,h3⟩
  constructor
  ·refine h1.trans ?_
   rw[←e]
   show ((s.1 k || bn C p k) || _)=_
   rw[Bool.or_assoc]
  ·refine h2.trans ?_
   rw[←e]
   show ((s.2 k || ac C p k) || _)=_
   rw[Bool.or_assoc]
noncomputable def objs (N:Nat) (C:List (Int×Int)) (s:(Nat→Bool)×(Nat→Bool)):List Value:=[.agg ⟨[I (.ofNat N)]⟩,.agg ⟨[.func (.func 37) ⟨[]⟩ ⟨[pt 4,pt 5,pt 6]⟩]⟩,.agg ⟨[.func (.func 75) ⟨[]⟩ ⟨[pt 1,pt 2,pt 3]⟩]⟩]++o5 N C 7 8 s
noncomputable def X9 (N:Nat) (C:List (Int×Int)) (r:List Int) (s:(Nat→Bool)×(Nat→Bool)):List Value:=[Sl.v 1 (slN r),pt 1,pt 2,pt 3]++objs N C s
noncomputable def WU (N:Nat) (C:List (Int×Int)) (s:(Nat→Bool)×(Nat→Bool)):Value:=.tuple ⟨.tuple ⟨[]⟩::objs N C s⟩
theorem AaF (n:Nat) (r:List Int) (s:(Nat→Bool)×(Nat→Bool)):BI (n+1) 10750 (X9 N C r s)=Jg (BI n) 1000000 (slN r) (Int.ofNat N) (Int.ofNat N) (cl 0 C) (C.length+1) (cc (C.length+1)) C.length (cc C.length) (Bp (C.length+1) s.1) (Bp C.length s.2):=by kernel_rfl
theorem Sd (n d:Nat) (hN:N≤7) (r:List Int) (hr:r.length≤7) (hS:∀ (z:Int) (s:(Nat→Bool)×(Nat→Bool)),BI (n+5) 10750 (X9 N C (r++[z]) s)=some (WU N C (KU C s (Eb N d (r++[z]))))):∀ (e v i:Nat) (s:(Nat→Bool)×(Nat→Bool)),i+e=N→e < v →
 Gq (BI (n+5)) 1000000 v (slN r) (Int.ofNat i) (Int.ofNat N) (Int.ofNat N) (cl 0 C) (C.length+1) (cc (C.length+1)) C.length (cc C.length) (Bp (C.length+1) s.1) (Bp C.length s.2)=some (WU N C (KU C s (((List.range N).drop i).flatMap fun j=>if Int.ofNat j∈r then [] else Eb N d (r++[Int.ofNat j]))))
 | _,0,_,_,_,h=>by omega
 | 0, v + 1, i, s, hi, _ => by
  show G9 (BI (n+5)) 1000000 (Gq (BI (n+5)) 1000000 v) _ _ _ _ _ _ _ _ _ _ _=_
  unfold G9
  rw[BO,Ak,BO,Ak,CY (by omega),AA,List.drop_eq_nil_of_le (by simp;omega)];rfl
 | e + 1, v + 1, i, s, hi, hv => by
  have hlt:i < N:=by omega
  have yY:(List.range N).drop i=i::(List.range N).drop (i+1):=by
   rw[List.drop_eq_getElem_cons (by simpa using hlt)];simp
  have h16:BI (n+5) 38 [Sl.v 1 (slN r),I (Int.ofNat i)]=some (.bool (JN (Int.ofNat i∈r))):=p16 (n+3) (fl0 r) r (Int.ofNat i) (by omega)
  have ih:=fun s=>Sd n d hN r hr hS e v (i+1) s (by omega) (by omega)
  rw[yY,List.flatMap_cons]
  show G9 (BI (n+5)) 1000000 (Gq (BI (n+5)) 1000000 v) _ _ _ _ _ _ _ _ _ _ _=_
  unfold G9
  rw[BO,Ak,BO,Ak,C8 hlt,Ak,h16,Ac,BU,Ac]
  by_cases hm:Int.ofNat i∈r
  ·rw[Fh hm,show nt true=false from rfl,AA,if_pos hm,List.nil_append]
   unfold G5
   rw[BO,Ak,BO,Ak,DC i (by omega)]
   exact ih s
  ·rw[FK hm,show nt false=true from rfl,Ak,if_neg hm]
   obtain⟨a1,a2⟩:=Ux r (Int.ofNat i)
   obtain⟨c1,c2,c3⟩:=QG r
   have hroom:EQ ((KY 1 (slN r)).n+1) 8=true:=by rw[c1];exact QB (by omega)
   have hcall:=hS (Int.ofNat i) s
   rw[q17,Ac,Dc,Ac,c3,hroom,show an true true=true from rfl,Ak,a2,Ak,a1,bK,Ak,bK,Ak,Ak,Ak]
   refine Eq.trans (congrArg (fun q=>oo q none _) hcall) ?_
   have hfold:KU C s (Eb N d (r++[Int.ofNat i])++((List.range N).drop (i+1)).flatMap fun j=>if Int.ofNat j∈r then [] else Eb N d (r++[Int.ofNat j]))=KU C (KU C s (Eb N d (r++[Int.ofNat i]))) (((List.range N).drop (i+1)).flatMap fun j=>if Int.ofNat j∈r then [] else Eb N d (r++[Int.ofNat j])):=by unfold KU;rw[List.foldl_append]
   rw[hfold,←ih (KU C s (Eb N d (r++[Int.ofNat i])))]
   generalize KU C s (Eb N d (r++[Int.ofNat i]))=s'
   show bb (Au Ah (Bp (C.length+1) s'.1)) (bb (Au Ah (Bp C.length s'.2)) (bb (Au Ah (Bp (C.length+1) s'.1)) (bb (Au Ah (Bp C.length s'.2)) (G5 (BI (n+5)) 1000000 (Gq (BI (n+5)) 1000000 v) (slN r) (Int.ofNat i) (Int.ofNat N) (Int.ofNat N) (cl 0 C) (C.length+1) (cc (C.length+1)) C.length (cc C.length) (Bp (C.length+1) s'.1) (Bp C.length s'.2)) none) none) none) none=_
   unfold G5
   simp only[BO,Ak,DC i (show i < 1000000 by omega)]
theorem Uz (h1:1≤N) (h7:N≤7) (hl:C.length≤24) (hC:Gw N C):∀ (d n:Nat) (r:List Int) (s:(Nat→Bool)×(Nat→Bool)),r.length+d=N→BI (n+d+5) 10750 (X9 N C r s)=some (WU N C (KU C s (Eb N d r)))
 | 0, n, r, s, hr => by
  rw[AaF]
  unfold Jg
  have hfl:slN r=sl 0 r:=by
   cases r with
   | nil=>simp at hr;omega
   | cons a r=>rfl
  have h12:=p37 n h7 hl hC (p:=r) (by omega) s
  rw[hfl,I4,show r.length=N from by omega,BO,Ak,BO,Ak,nU,Ak,bK,Ak,bK,Ak,Ak,Ak]
  refine Eq.trans (congrArg (fun q=>oo q none _) h12) ?_
  generalize hs':WS C s r=s'
  have hf:KU C s (Eb N 0 r)=s':=hs'
  rw[hf]
  show bb (Au Ah (Bp (C.length+1) s'.1)) (bb (Au Ah (Bp C.length s'.2)) (bb (Au Ah (Bp (C.length+1) s'.1)) (bb (Au Ah (Bp C.length s'.2)) (some (WU N C s')) none) none) none) none=_
  simp only[BO,Ak]
 | d + 1, n, r, s, hr => by
  have hS:∀ (z:Int) (s:(Nat→Bool)×(Nat→Bool)),BI ((n+d)+5) 10750 (X9 N C (r++[z]) s)=some (WU N C (KU C s (Eb N d (r++[z])))):=fun z s=>Uz h1 h7 hl hC d n (r++[z]) s (by simp;omega)
  have hlp:=Sd (n+d) d h7 r (by omega) hS N 1000000 0 s (by omega) (by omega)
  rw[List.drop_zero] at hlp
  rw[show n+(d+1)+5=(n+d+5)+1 from by omega,AaF]
  unfold Jg
  rw[BO,Ak,BO,Ak,show (slN r).n=r.length from rfl,Ww (show Int.ofNat r.length≠Int.ofNat N from fun h=>by have:=Int.ofNat.inj h;omega),AA]
  exact hlp
theorem Acu (n:Nat) (h1:1≤N) (h7:N≤7) (hl:C.length≤24) (hC:Gw N C) (s:(Nat→Bool)×(Nat→Bool)) :
 BI (n+N+6) 10360 ([I (Int.ofNat N),.func (.func 37) ⟨[]⟩ ⟨[pt 1,pt 2,pt 3]⟩]++o5 N C 4 5 s)=some (.tuple ⟨.tuple ⟨[]⟩::o5 N C 4 5 (KU C s (Eb N N []))⟩):=by
 have e:BI (n+N+5+1) 10360 ([I (Int.ofNat N),.func (.func 37) ⟨[]⟩ ⟨[pt 1,pt 2,pt 3]⟩]++o5 N C 4 5 s)=Ke (BI (n+N+5)) 1000000 (Int.ofNat N) (Int.ofNat N) (cl 0 C) (C.length+1) (cc (C.length+1)) C.length (cc C.length) (Bp (C.length+1) s.1) (Bp C.length s.2):=by kernel_rfl
 have h:=Uz h1 h7 hl hC N n [] s (by simp)
 rw[show n+N+6=n+N+5+1 from rfl,e]
 unfold Ke
 rw[BO,Ak,BO,Ak,bK,Ak,bK,Ak,Ak,Ak]
 refine Eq.trans (congrArg (fun q=>oo q none _) h) ?_
 generalize KU C s (Eb N N [])=s'
 show bb (Au Ah (Bp (C.length+1) s'.1)) (bb (Au Ah (Bp C.length s'.2)) (bb (Au Ah (Bp (C.length+1) s'.1)) (bb (Au Ah (Bp C.length s'.2)) (some (Value.tuple ⟨Value.tuple ⟨[]⟩::o5 N C 4 5 s'⟩)) none) none) none) none=_
 simp only[BO,Ak]
end
end Go.TbWM
set_option maxRecDepth 100000
set_option maxHeartbeats 4000000
namespace Go.TbWM
open Go Go.Sp Go.TbW Go.TM
theorem AaG (pu:Af) (n fl fl':Nat) (a b:List Int) (hab:a.length=b.length) (ha:a.length < 1000):∀ (d w i:Nat),i+d=a.length→d < w →
 Jb pu n w (sl fl a) (sl fl' b) (Int.ofNat i)=some (.tuple ⟨[.bool (JN (a.drop i=b.drop i))]⟩)
 | _,0,_,_,h=>by omega
 | 0, w + 1, i, hd, _ => by
  show Hz pu n (Jb pu n w) _ _ _=_
  unfold Hz
  rw[I4,CY (by omega),AA,List.drop_eq_nil_of_le (by omega),List.drop_eq_nil_of_le (by omega),Fh rfl];rfl
 | d + 1, w + 1, i, hd, hw => by
  have h1:i < a.length:=by omega
  have h2:i < b.length:=by omega
  have ih:=AaG pu n fl fl' a b hab ha d w (i+1) (by omega) (by omega)
  have e1:a.drop i=a[i]::a.drop (i+1):=List.drop_eq_getElem_cons h1
  have e2:b.drop i=b[i]::b.drop (i+1):=List.drop_eq_getElem_cons h2
  show Hz pu n (Jb pu n w) _ _ _=_
  unfold Hz
  rw[I4,C8 h1]
  simp only[Ak,Cx,Ac,I4,GX,blt_eq,h1,h2,decide_true,CF,Bool.true_and,BZ,Nat.mul_one,Aja a i h1,Aja b i h2,BP,DC i (by omega:i < 1000000)]
  by_cases c:a[i]=b[i]
  ·rw[c,OX,AA,ih]
   congr 5
   apply Gm
   rw[e1,e2,c]
   exact⟨fun h=>by rw[h],fun h=>(List.cons.inj h).2⟩
  ·rw[Wv c,Ak,FK (fun h=>c (by rw[e1,e2] at h;exact(List.cons.inj h).1))]
theorem WV (n fl fl':Nat) (a b:List Int) (ha:a.length < 1000):BI (n+1) 10170 [Sl.v 1 (sl fl a),Sl.v 1 (sl fl' b)]=some (.tuple ⟨[.bool (JN (a=b))]⟩):=by
 have e:BI (n+1) 10170 [Sl.v 1 (sl fl a),Sl.v 1 (sl fl' b)]=Kh (BI n) 1000000 (sl fl a) (sl fl' b):=by kernel_rfl
 rw[e];unfold Kh
 rw[I4,I4]
 by_cases h:a.length=b.length
 ·rw[h,OX,AA]
  exact AaG (BI n) 1000000 fl fl' a b h ha a.length 1000000 0 (by omega) (by omega)
 ·rw[Wv (fun e=>h (by have:=Int.ofNat.inj e;exact this)),Ak,FK (fun e=>h (by rw[e]))]
section
variable {N:Nat} {C C2:List (Int×Int)}
def o6 (N:Nat) (C C2:List (Int×Int)) (w:Bool):List Value:=[.agg ⟨[I (.ofNat N),Sl.v 2 (cl 0 C)]⟩,.agg ⟨[I (.ofNat N),Sl.v 2 (cl 0 C2)]⟩,.agg ⟨[.bool w]⟩]
noncomputable def ch6 (C C2:List (Int×Int)) (w:Bool) (p:List Int):Bool:=w && JN (runs p C=runs p C2)
theorem p39 (n:Nat) (h1:1≤N) (h7:N≤7) (hl:C.length≤24) (hC:Gw N C) (hl2:C2.length≤24) (hC2:Gw N C2) {p:List Int} (hp:p.length=N) (w:Bool) :
 BI (n+4) 10390 ([Sl.v 1 (sl 0 p),pt 1,pt 2,pt 3]++o6 N C C2 w)=some (.tuple ⟨.tuple ⟨[]⟩::o6 N C C2 (ch6 C C2 w p)⟩):=by
 have e:BI (n+4) 10390 ([Sl.v 1 (sl 0 p),pt 1,pt 2,pt 3]++o6 N C C2 w)=KJ (BI (n+3)) 1000000 (sl 0 p) (Int.ofNat N) (cl 0 C) (Int.ofNat N) (cl 0 C2) w:=by kernel_rfl
 have r1:BI (n+3) 27 [.agg ⟨[I (Int.ofNat N),Sl.v 2 (cl 0 C)]⟩,Sl.v 1 (sl 0 p)]=some (.tuple ⟨[Sl.v 1 (sl 0 (runs p C)),I 0]⟩):=Aau n 0 0 N C p h7 hl hC (OZ h1 h7 hl hC) hp
 have r2:BI (n+3) 27 [.agg ⟨[I (Int.ofNat N),Sl.v 2 (cl 0 C2)]⟩,Sl.v 1 (sl 0 p)]=some (.tuple ⟨[Sl.v 1 (sl 0 (runs p C2)),I 0]⟩):=Aau n 0 0 N C2 p h7 hl2 hC2 (OZ h1 h7 hl2 hC2) hp
 have rs:=WV (n+2) 0 0 (runs p C) (runs p C2) (by rw[Eo];omega)
 rw[e];unfold KJ ch6
 rw[r1,Ac,FW,Ac,Dj,Dj,EG,Dc,Ac,BP,Ac,r2,Ac,FW,Ac,Dj,Dj,EG,Dc,Ac,BP,Ac]
 cases w with
 | false=>rfl
 | true =>
  rw[Ak,show Bd (0:Int) 0=true from rfl,Ak,Ak,rs,Ac,FW,Ac,Dj,EG,BU,Ac,Bool.true_and];rfl
noncomputable def MH (C C2:List (Int×Int)) (w:Bool) (l:List (List Int)):Bool:=l.foldl (ch6 C C2) w
def bL (N:Nat) (C C2:List (Int×Int)) (w:Bool):List Value:=[.agg ⟨[I (.ofNat N)]⟩,.agg ⟨[.func (.func 39) ⟨[]⟩ ⟨[pt 4,pt 5,pt 6]⟩]⟩,.agg ⟨[.func (.func 75) ⟨[]⟩ ⟨[pt 1,pt 2,pt 3]⟩]⟩]++o6 N C C2 w
def UA (N:Nat) (C C2:List (Int×Int)) (r:List Int) (w:Bool):List Value:=[Sl.v 1 (slN r),pt 1,pt 2,pt 3]++bL N C C2 w
def UB (N:Nat) (C C2:List (Int×Int)) (w:Bool):Value:=.tuple ⟨.tuple ⟨[]⟩::bL N C C2 w⟩
theorem AaI (n:Nat) (r:List Int) (w:Bool):BI (n+1) 10751 (UA N C C2 r w)=Jh (BI n) 1000000 (slN r) (Int.ofNat N) (Int.ofNat N) (cl 0 C) (Int.ofNat N) (cl 0 C2) w:=by kernel_rfl
theorem PI (n d:Nat) (hN:N≤7) (r:List Int) (hr:r.length≤7) (hS:∀ (z:Int) (w:Bool),BI (n+5) 10751 (UA N C C2 (r++[z]) w)=some (UB N C C2 (MH C C2 w (Eb N d (r++[z]))))):∀ (e v i:Nat) (w:Bool),i+e=N→e < v →
 Gt (BI (n+5)) 1000000 v (slN r) (Int.ofNat i) (Int.ofNat N) (Int.ofNat N) (cl 0 C) (Int.ofNat N) (cl 0 C2) w=some (UB N C C2 (MH C C2 w (((List.range N).drop i).flatMap fun j=>if Int.ofNat j∈r then [] else Eb N d (r++[Int.ofNat j]))))
 | _,0,_,_,_,h=>by omega
 | 0, v + 1, i, w, hi, _ => by
  show HY (BI (n+5)) 1000000 (Gt (BI (n+5)) 1000000 v) _ _ _ _ _ _ _ _=_
  unfold HY
  rw[CY (by omega),AA,List.drop_eq_nil_of_le (by simp;omega)];rfl
 | e + 1, v + 1, i, w, hi, hv => by
  have hlt:i < N:=by omega
  have yY:(List.range N).drop i=i::(List.range N).drop (i+1):=by
   rw[List.drop_eq_getElem_cons (by simpa using hlt)];simp
  have h16:BI (n+5) 38 [Sl.v 1 (slN r),I (Int.ofNat i)]=some (.bool (JN (Int.ofNat i∈r))):=p16 (n+3) (fl0 r) r (Int.ofNat i) (by omega)
  have ih:=fun w=>PI n d hN r hr hS e v (i+1) w (by omega) (by omega)
  rw[yY,List.flatMap_cons]
  show HY (BI (n+5)) 1000000 (Gt (BI (n+5)) 1000000 v) _ _ _ _ _ _ _ _=_
  unfold HY
  rw[C8 hlt,Ak,h16,Ac,BU,Ac]
  by_cases hm:Int.ofNat i∈r
  ·rw[Fh hm,show nt true=false from rfl,AA,if_pos hm,List.nil_append]
   unfold HV
   rw[DC i (by omega)]
   exact ih w
  ·rw[FK hm,show nt false=true from rfl,Ak,if_neg hm]
   obtain⟨a1,a2⟩:=Ux r (Int.ofNat i)
   obtain⟨c1,c2,c3⟩:=QG r
   have hroom:EQ ((KY 1 (slN r)).n+1) 8=true:=by rw[c1];exact QB (by omega)
   have hcall:=hS (Int.ofNat i) w
   rw[q17,Ac,Dc,Ac,c3,hroom,show an true true=true from rfl,Ak,a2,Ak,a1]
   refine Eq.trans (congrArg (fun q=>oo q none _) hcall) ?_
   have hfold:MH C C2 w (Eb N d (r++[Int.ofNat i])++((List.range N).drop (i+1)).flatMap fun j=>if Int.ofNat j∈r then [] else Eb N d (r++[Int.ofNat j]))=MH C C2 (MH C C2 w (Eb N d (r++[Int.ofNat i]))) (((List.range N).drop (i+1)).flatMap fun j=>if Int.ofNat j∈r then [] else Eb N d (r++[Int.ofNat j])):=by unfold MH;rw[List.foldl_append]
   rw[hfold,←ih (MH C C2 w (Eb N d (r++[Int.ofNat i])))]
   show HV (BI (n+5)) 1000000 (Gt (BI (n+5)) 1000000 v) (slN r) (Int.ofNat i) (Int.ofNat N) (Int.ofNat N) (cl 0 C) (Int.ofNat N) (cl 0 C2) (MH C C2 w (Eb N d (r++[Int.ofNat i])))=_
   unfold HV
   rw[DC i (by omega)]
theorem Sg (h1:1≤N) (h7:N≤7) (hl:C.length≤24) (hC:Gw N C) (hl2:C2.length≤24) (hC2:Gw N C2):∀ (d n:Nat) (r:List Int) (w:Bool),r.length+d=N→BI (n+d+5) 10751 (UA N C C2 r w)=some (UB N C C2 (MH C C2 w (Eb N d r)))
 | 0, n, r, w, hr => by
  rw[AaI]
  unfold Jh
  have hfl:slN r=sl 0 r:=by
   cases r with
   | nil=>simp at hr;omega
   | cons a r=>rfl
  have h12:=p39 n h1 h7 hl hC hl2 hC2 (p:=r) (by omega) w
  rw[hfl,I4,show r.length=N from by omega,nU,Ak]
  refine Eq.trans (congrArg (fun q=>oo q none _) h12) ?_
  rfl
 | d + 1, n, r, w, hr => by
  have hS:∀ (z:Int) (w:Bool),BI ((n+d)+5) 10751 (UA N C C2 (r++[z]) w)=some (UB N C C2 (MH C C2 w (Eb N d (r++[z])))):=fun z w=>Sg h1 h7 hl hC hl2 hC2 d n (r++[z]) w (by simp;omega)
  have hlp:=PI (n+d) d h7 r (by omega) hS N 1000000 0 w (by omega) (by omega)
  rw[List.drop_zero] at hlp
  rw[show n+(d+1)+5=(n+d+5)+1 from by omega,AaI]
  unfold Jh
  rw[show (slN r).n=r.length from rfl,Ww (show Int.ofNat r.length≠Int.ofNat N from fun h=>by have:=Int.ofNat.inj h;omega),AA]
  exact hlp
theorem Acv (n:Nat) (h1:1≤N) (h7:N≤7) (hl:C.length≤24) (hC:Gw N C) (hl2:C2.length≤24) (hC2:Gw N C2) (w:Bool) :
 BI (n+N+6) 10361 ([I (Int.ofNat N),.func (.func 39) ⟨[]⟩ ⟨[pt 1,pt 2,pt 3]⟩]++o6 N C C2 w)=some (.tuple ⟨.tuple ⟨[]⟩::o6 N C C2 (MH C C2 w (Eb N N []))⟩):=by
 have e:BI (n+N+5+1) 10361 ([I (Int.ofNat N),.func (.func 39) ⟨[]⟩ ⟨[pt 1,pt 2,pt 3]⟩]++o6 N C C2 w)=Ki (BI (n+N+5)) 1000000 (Int.ofNat N) (Int.ofNat N) (cl 0 C) (Int.ofNat N) (cl 0 C2) w:=by kernel_rfl
 have h:=Sg h1 h7 hl hC hl2 hC2 N n [] w (by simp)
 rw[show n+N+6=n+N+5+1 from rfl,e]
 unfold Ki
 refine Eq.trans (congrArg (fun q=>oo q none _) h) ?_
 rfl
theorem Si:∀ (l:List (List Int)),(∀ p∈l,runs p C=runs p C2)→MH C C2 true l=true
 | [],_=>rfl
 | p :: l, h => by
  show MH C C2 (ch6 C C2 true p) l=true
  unfold ch6
  rw[Fh (h p (by simp)),Bool.and_self]
  exact Si l fun q hq=>h q (by simp[hq])
theorem l74 (pu:Af) (M:Nat) (idle:List Int) (f:Nat→Bool) (hl:C.length≤24) (h38:∀ i,i < C.length→pu 38 [Sl.v 1 (sl 0 idle),I (Int.ofNat i)]=some (.bool (!f i))):∀ (d w i:Nat) (E:List (Int×Int)),i+d=C.length→d < w→E.length≤i →
 SB pu M w (sl 0 idle) (cl 0 C) (Int.ofNat C.length) (Int.ofNat i) (Int.ofNat N) (cl 0 C) (Int.ofNat N) E.length (2*E.length) (pc E)=Sz pu M (Int.ofNat N) (cl 0 C) (Int.ofNat N) (E++fw f i (C.drop i)).length (2*(E++fw f i (C.drop i)).length) (pc (E++fw f i (C.drop i)))
 | _,0,_,_,_,h,_=>by omega
 | 0, w + 1, i, E, hd, _, _ => by
  show SA pu M (SB pu M w) _ _ _ _ _ _ _ _ _ _=_
  unfold SA
  rw[UM,Ak,CY (by omega),AA,List.drop_eq_nil_of_le (by omega)]
  unfold fw
  rw[List.append_nil]
 | d + 1, w + 1, i, E, hd, hw, hE => by
  have hlt:i < C.length:=by omega
  obtain⟨g1,g2⟩:=JP C i hlt
  have e:C.drop i=C[i]::C.drop (i+1):=List.drop_eq_getElem_cons hlt
  have hbb:Nat.ble (i*2+2) (len (pc C))=true:=by rw[ble_eq,AV,Gu];simp;omega
  rw[e]
  show SA pu M (SB pu M w) _ _ _ _ _ _ _ _ _ _=_
  unfold SA fw
  rw[UM,C8 hlt]
  simp only[Ak,Cx,Ac,LZ,M8,blt_eq,hlt,decide_true,CF,Bool.true_and,hbb,BZ,g1,g2,BP,h38 i hlt,BU]
  cases g:f i with
  | true =>
   have ih:=l74 pu M idle f hl h38 d w (i+1) (E++[C[i]]) (by omega) (by omega) (by simp;omega)
   rw[show (E++[C[i]]).length=E.length+1 by simp,←List.append_cons] at ih
   rw[show nt (!true)=true from rfl,Ak,ZQ E 1 (by omega) (by omega),Ak,Ul,UM,Ak,if_pos rfl]
   unfold UF
   rw[UM,Ak,DC i (by omega)]
   exact ih
  | false =>
   have ih:=l74 pu M idle f hl h38 d w (i+1) E (by omega) (by omega) (by omega)
   rw[show nt (!false)=false from rfl,AA,if_neg (by decide),List.nil_append]
   unfold UF
   rw[UM,Ak,DC i (by omega)]
   exact ih
theorem AaJ (n:Nat) (h1:1≤N) (h7:N≤7) (hl:C.length≤24) (hC:Gw N C) (hl2:C2.length≤24) (hC2:Gw N C2) (hall:∀ p∈Eb N N [],runs p C=runs p C2) (h10:BI (n+N+6) 10 []=some (.bool true)) :
 Sz (BI (n+N+6)) 1000000 (Int.ofNat N) (cl 0 C) (Int.ofNat N) C2.length (2*C2.length) (pc C2)=some (.bool true):=by
 have h:=Acv n h1 h7 hl hC hl2 hC2 true
 rw[Si _ hall] at h
 unfold Sz
 rw[UM,Ak,Bz,List.drop_zero,ZR,Aav,Ak]
 refine Eq.trans (congrArg (fun q=>oo q none _) h) ?_
 show oo (BI (n+N+6) 10 []) none (fun v=>oo (Bf v) none fun b=>UE (BI (n+N+6)) 1000000 b)=_
 rw[h10];rfl
theorem O8 (f:Nat→Bool) (k:Nat):∀ (d i:Nat),Int.ofNat k∈pick f i d↔(i≤k∧k < i+d∧f k=true)
 | 0,i=>by unfold pick;simp;omega
 | d + 1, i => by
  have ih:=O8 f k d (i+1)
  unfold pick
  rw[List.mem_append,ih]
  constructor
  ·rintro(h | ⟨h2,h3,h4⟩)
   ·cases g:f i with
    | true =>
     rw[g,Ak,List.mem_singleton] at h
     have:=Int.ofNat.inj h
     subst this
     exact⟨Nat.le_refl _,by omega,g⟩
    | false=>rw[g,AA] at h;cases h
   ·exact⟨by omega,by omega,h4⟩
  ·rintro⟨h2,h3,h4⟩
   by_cases e:k=i
   ·subst e;rw[h4,Ak];exact .inl (by simp)
   ·exact .inr ⟨by omega,by omega,h4⟩
theorem K5 {f g:Nat→Bool}:∀ (d i:Nat),(∀ k,i≤k→k < i+d→f k=g k)→pick f i d=pick g i d
 | 0,_,_=>rfl
 | d + 1, i, h => by
  unfold pick
  rw[h i (Nat.le_refl _) (by omega),K5 d (i+1) fun k h2 h3=>h k (by omega) (by omega)]
theorem O9 (f:Nat→Bool):∀ (d i:Nat),(pick f i d).length≤d
 | 0,_=>Nat.le_refl _
 | d + 1, i => by
  have:=O9 f d (i+1)
  unfold pick
  cases f i <;> simp[Ak,AA] <;> omega
def EQ8 (l:List Int) (c:Nat):Prop:=c / 2=l.length∧c % 2=0
theorem bM (l:List Int) (z:Int):EQ8 (l++[z]) (2*(l.length+1)+bb false 1 0):=by
 constructor
 ·rw[O7];show (2*(l.length+1)+0) / 2=l.length+1;omega
 ·show (2*(l.length+1)+0) % 2=0;omega
theorem l76 (pu:Af) (M cA cB:Nat) (hl:C.length≤24) (s:(Nat→Bool)×(Nat→Bool)):∀ (d w i:Nat) (a b:List Int) (ca cb:Nat),i+d=C.length→d < w→EQ8 a ca→EQ8 b cb→a.length≤i→b.length≤i →
 ∃ ca' cb',Pf pu M w a.length ca b.length cb (Int.ofNat C.length) (Int.ofNat i) (Int.ofNat N) (cl 0 C) C.length cA (C.length+1) cB (a.map I) (b.map I) (Bp C.length s.2) (Bp (C.length+1) s.1)=QM pu M (a++pick (fun k=>!s.2 k) i d).length ca' (b++pick (fun k=>s.1 (k+1)) i d).length cb' (Int.ofNat N) (cl 0 C) (C.length+1) cB ((a++pick (fun k=>!s.2 k) i d).map I) ((b++pick (fun k=>s.1 (k+1)) i d).map I) (Bp (C.length+1) s.1)
 | _,0,_,_,_,_,_,_,h,_,_,_,_=>by omega
 | 0, w + 1, i, a, b, ca, cb, hd, _, _, _, _, _ => by
  refine⟨ca,cb,?_⟩
  show SC pu M (Pf pu M w) _ _ _ _ _ _ _ _ _ _ _ _ _ _ _ _=_
  unfold SC pick
  rw[Jv,Jv,BO,BO,Ak,Ak,Ak,Ak,CY (by omega),AA,List.append_nil,List.append_nil]
 | d + 1, w + 1, i, a, b, ca, cb, hd, hw, ha, hb, hla, hlb => by
  have hlt:i < C.length:=by omega
  have hlt2:i+1 < C.length+1:=by omega
  have second:∀ (a':List Int) (ca':Nat),EQ8 a' ca'→a'.length≤i+1→∃ ca'' cb',UH pu M (Pf pu M w) a'.length ca' b.length cb (Int.ofNat i) (Int.ofNat C.length) (Int.ofNat i) (Int.ofNat N) (cl 0 C) C.length cA (C.length+1) cB (a'.map I) (b.map I) (Bp C.length s.2) (Bp (C.length+1) s.1)=QM pu M (a'++pick (fun k=>!s.2 k) (i+1) d).length ca'' (b++pick (fun k=>s.1 (k+1)) i (d+1)).length cb' (Int.ofNat N) (cl 0 C) (C.length+1) cB ((a'++pick (fun k=>!s.2 k) (i+1) d).map I) ((b++pick (fun k=>s.1 (k+1)) i (d+1)).map I) (Bp (C.length+1) s.1):=by
   intro a' ca' ha' hla'
   unfold UH
   rw[DC i (by omega),Cx,Ac,show an (Nat.blt (i+1) (C.length+1)) true=true from by rw[CF,blt_eq,decide_eq_true hlt2];rfl,Ak,K3 _ hlt2,Ac,BU,Ac,Jv,Jv,BO,BO,Ak,Ak,Ak,Ak]
   cases g:s.1 (i+1) with
   | true =>
    obtain⟨x,y,ih⟩:=l76 pu M cA cB hl s d w (i+1) a' (b++[Int.ofNat i]) ca' (2*(b.length+1)+bb false 1 0) (by omega) (by omega) ha' (bM b _) hla' (by rw[O7];omega)
    refine⟨x,y,?_⟩
    have e:b++pick (fun k=>s.1 (k+1)) i (d+1)=(b++[Int.ofNat i])++pick (fun k=>s.1 (k+1)) (i+1) d:=by
     show b++(bb (s.1 (i+1)) [Int.ofNat i] []++_)=_
     rw[g,Ak,List.append_assoc]
    rw[e,←ih,Ak,Un hb.1 hb.2 (by omega),Ak,X7,Jv,Ak]
    unfold UG
    rw[Jv,Jv,BO,BO,Ak,Ak,Ak,Ak,DC i (by omega),O7]
   | false =>
    obtain⟨x,y,ih⟩:=l76 pu M cA cB hl s d w (i+1) a' b ca' cb (by omega) (by omega) ha' hb hla' (by omega)
    refine⟨x,y,?_⟩
    have e:b++pick (fun k=>s.1 (k+1)) i (d+1)=b++pick (fun k=>s.1 (k+1)) (i+1) d:=by
     show b++(bb (s.1 (i+1)) [Int.ofNat i] []++_)=_
     rw[g,AA,List.nil_append]
    rw[e,←ih,AA]
    unfold UG
    rw[Jv,Jv,BO,BO,Ak,Ak,Ak,Ak,DC i (by omega)]
  show ∃ ca' cb',SC pu M (Pf pu M w) _ _ _ _ _ _ _ _ _ _ _ _ _ _ _ _=_
  unfold SC
  rw[Jv,Jv,BO,BO,Ak,Ak,Ak,Ak,C8 hlt,Ak,Cx,Ac,show an (Nat.blt i C.length) true=true from by rw[CF,blt_eq,decide_eq_true hlt];rfl,Ak,K3 _ hlt,Ac,BU,Ac]
  cases g:s.2 i with
  | true =>
   obtain⟨x,y,h⟩:=second a ca ha (by omega)
   refine⟨x,y,?_⟩
   have e:a++pick (fun k=>!s.2 k) i (d+1)=a++pick (fun k=>!s.2 k) (i+1) d:=by
    show a++(bb (!s.2 i) [Int.ofNat i] []++_)=_
    rw[g,show (!true)=false from rfl,AA,List.nil_append]
   rw[e,←h,show nt true=false from rfl,AA]
  | false =>
   obtain⟨x,y,h⟩:=second (a++[Int.ofNat i]) (2*(a.length+1)+bb false 1 0) (bM a _) (by rw[O7];omega)
   refine⟨x,y,?_⟩
   have e:a++pick (fun k=>!s.2 k) i (d+1)=(a++[Int.ofNat i])++pick (fun k=>!s.2 k) (i+1) d:=by
    show a++(bb (!s.2 i) [Int.ofNat i] []++_)=_
    rw[g,show (!false)=true from rfl,Ak,List.append_assoc]
   rw[e,←h,show nt false=true from rfl,Ak,Un ha.1 ha.2 (by omega),Ak,X7,Jv,Ak,O7]
end
theorem e10 (n:Nat):BI (n+6) 10 []=some (.bool true):=by kernel_rfl
theorem Ya (n L:Nat) (P:List (Nat×Nat)) (b:Bool) (hL:L < 256) (hP:byte P) :
 BI (n+14) 7 [.agg ⟨[.int .u8 (Int.ofNat L),Sl.v 2 (ps P),.bool b]⟩]=some (.bool true):=by
 have e:BI (n+14) 7 [.agg ⟨[.int .u8 (Int.ofNat L),Sl.v 2 (ps P),.bool b]⟩]=m7_ (BI (n+13)) 1000000 (Int.ofNat L) (ps P) b:=by kernel_rfl
 obtain⟨C,hC,hl,h5⟩:=AaA (n+12) L 10 P hL hP b (Nat.le_refl _)
 have hl24:C.length≤20:=by cases b <;> simp at hl <;> omega
 have hmod:L % 5 < 5:=Nat.mod_lt _ (by omega)
 generalize hN:1+L % 5=N at *
 have h1:1≤N:=by omega
 have hN5:N≤5:=by omega
 have h5':BI (n+13) 26 [.agg ⟨[.int .u8 (Int.ofNat L),Sl.v 2 (ps P),.bool b]⟩,I 10]=some (.agg ⟨[I (Int.ofNat N),Sl.v 2 (cl 0 C)]⟩):=h5
 have hkk:∀ k,k≤25→an (Nat.ble k k) (an (Nat.ble (k*1) 1099511627776) (an (Nat.ble k 1099511627776) true))=true:=fun k hk=>by
  rw[CF,CF,CF,ble_eq,ble_eq,ble_eq];simp;omega
 have h6:=Acu (n+7 - N) h1 (by omega) (by omega) hC (fun _=>false,fun _=>false)
 rw[show n+7 - N+N+6=n+13 from by omega] at h6
 have hat:=fun k=>Uy (C:=C) k (Eb N N []) (fun _=>false,fun _=>false)
 generalize KU C (fun _=>false,fun _=>false) (Eb N N [])=s at h6 hat
 have hact:∀ k,s.2 k=act N C k:=fun k=>by
  rw[(hat k).2,Bool.false_or]
  unfold act ac
  apply Gm
  exact⟨fun ⟨q,hq,h⟩=>⟨q,hq,Classical.byContradiction fun k=>by rw[FK k] at h;cases h⟩,fun ⟨q,hq,h⟩=>⟨q,hq,Fh h⟩⟩
 have hbn:∀ (k:Nat) (D:List (Int×Int)),(∀ q:List Int,lr ((k:Int) - 1) 0 C q=runs q D)→s.1 k=JN (∃ q∈Eb N N [],¬ Pg (runs q D)):=fun k D hD=>by
  rw[(hat k).1,Bool.false_or]
  unfold bn
  apply Gm
  constructor
  ·rintro⟨q,hq,h⟩
   refine⟨q,hq,fun k=>?_⟩
   rw[hD,Fh k] at h;cases h
  ·rintro⟨q,hq,h⟩
   exact⟨q,hq,by rw[hD,FK h];rfl⟩
 have hb0:s.1 0 = !JN (KW N C):=by
  rw[hbn 0 C fun q=>SG _ C 0 q (by omega)]
  by_cases g:KW N C
  ·rw[Fh g,FK fun ⟨q,hq,k⟩=>k ((Kc hC).2 g q hq)];rfl
  ·rw[FK g,Fh (Classical.byContradiction fun k=>g ((Kc hC).1 fun q hq=>Classical.byContradiction fun k2=>k ⟨q,hq,k2⟩))];rfl
 have hb1:∀ k,k < C.length→s.1 (k+1)=Xa N C k:=fun k hk=>by
  rw[hbn (k+1) (C.take k++C.drop (k+1)) fun q=>by
   rw[show (((k+1:Nat):Int) - 1)=((0+k:Nat):Int) by omega];exact WO C 0 k q hk]
  rfl
 obtain⟨ca,cb,h76⟩:=l76 (N:=N) (C:=C) (BI (n+13)) 1000000 (cc C.length) (cc (C.length+1)) (by omega) s C.length 1000000 0 [] [] 0 0 (by omega) (by omega) ⟨rfl,rfl⟩ ⟨rfl,rfl⟩ (by simp) (by simp)
 rw[List.nil_append,List.nil_append,K5 (f:=fun k=>!s.2 k) (g:=fun k=>!act N C k) C.length 0 (fun k _ _=>by rw[hact]),K5 (f:=fun k=>s.1 (k+1)) (g:=Xa N C) C.length 0 (fun k _ hk=>hb1 k (by omega))] at h76
 have p11':BI (n+13) 11 [.agg ⟨[I (Int.ofNat N),Sl.v 2 (cl 0 C)]⟩]=some (.tuple ⟨[Sl.v 1 (sl 0 (pick (fun k=>!act N C k) 0 C.length)),I 0]⟩):=p11 (n+9) C h1 (by omega) (by omega) hC
 have hw10:=e10 (n+7)
 have hil:=O9 (fun k=>!act N C k) C.length 0
 have hnl:=O9 (Xa N C) C.length 0
 have hmem:∀ i,i < C.length→BI (n+13) 38 [Sl.v 1 (sl 0 (pick (fun k=>!act N C k) 0 C.length)),I (Int.ofNat i)]=some (.bool (!act N C i)):=fun i hi=>by
  have h:=p16 (n+11) 0 (pick (fun k=>!act N C k) 0 C.length) (Int.ofNat i) (by omega)
  refine h.trans ?_
  congr 2
  cases g:act N C i with
  | true=>exact FK fun k=>by have:=((O8 _ i C.length 0).1 k).2.2;rw[g] at this;cases this
  | false=>exact Fh ((O8 _ i C.length 0).2 ⟨by omega,by omega,by rw[g];rfl⟩)
 generalize hI:pick (fun k=>!act N C k) 0 C.length=idle at h76 p11' hil hmem
 generalize hD:pick (Xa N C) 0 C.length=need at h76 hnl
 have tI:Aq (idle.length*1) (Am 0 (idle.map I))=idle.map I:=by rw[Cg,Bz,List.drop_zero,Nat.mul_one];exact List.take_of_length_le (by simp)
 have tN:Aq (need.length*1) (Am 0 (need.map I))=need.map I:=by rw[Cg,Bz,List.drop_zero,Nat.mul_one];exact List.take_of_length_le (by simp)
 have kI:an (Nat.ble (0+idle.length*1) (len (idle.map I))) (Au Ah (idle.map I))=true:=by rw[Jv,Nat.ble_eq_true_of_le (by rw[AV];simp)];rfl
 have kN:an (Nat.ble (0+need.length*1) (len (need.map I))) (Au Ah (need.map I))=true:=by rw[Jv,Nat.ble_eq_true_of_le (by rw[AV];simp)];rfl
 have sI:BI (n+13) 10170 [Sl.v 1 (sl 0 idle),Sl.v 1 ⟨idle.length,0,idle.map I⟩]=some (.tuple ⟨[.bool (JN (idle=idle))]⟩):=WV (n+12) 0 0 idle idle (by omega)
 have sN:BI (n+13) 10170 [Sl.v 1 (sl 0 need),Sl.v 1 ⟨need.length,0,need.map I⟩]=some (.tuple ⟨[.bool (JN (need=need))]⟩):=WV (n+12) 0 0 need need (by omega)
 rw[Fh rfl] at sI sN
 -- after all checks
 have last:IB (BI (n+13)) 1000000 ⟨idle.length,0,idle.map I⟩ (sl 0 idle) false (Int.ofNat N) (cl 0 C)=some (.bool true):=by
  unfold IB
  rw[AA,I4]
  cases hi:idle with
  | nil=>rw[show Bd (Int.ofNat ([]:List Int).length) 0=true from rfl,Ak,hw10];rfl
  | cons x idl' =>
   rw[←hi,Ww (show Int.ofNat idle.length≠0 from by rw[hi];show ((idl'.length+1:Nat):Int)≠0;omega),AA]
   have h:=l74 (N:=N) (C:=C) (BI (n+13)) 1000000 idle (act N C) (by omega) hmem C.length 1000000 0 [] (by omega) (by omega) (by simp)
   rw[List.nil_append,List.drop_zero] at h
   refine Eq.trans h ?_
   have hall:∀ p∈Eb N N [],runs p C=runs p (fw (act N C) 0 C):=fun p hp=>by
    have hpl:p.length=N:=by have:=LK N N [] p hp;simpa using this
    refine(Sc (act N C) C p 0 hC hpl fun k hk hf c=>?_).symm
    rw[Nat.zero_add] at hf
    unfold act at hf
    rw[Fh ⟨p,hp,c⟩] at hf;cases hf
   have hlf:=WM (act N C) C 0
   have h9:=AaJ (N:=N) (C:=C) (C2:=fw (act N C) 0 C) (n+7 - N) h1 (by omega) (by omega) hC (by omega) (fun q hq=>hC q (WN _ C 0 q hq)) hall (by rw[show n+7 - N+N+6=n+13 from by omega];exact hw10)
   rw[show n+7 - N+N+6=n+13 from by omega] at h9
   exact h9
 have m70:QM (BI (n+13)) 1000000 idle.length ca need.length cb (Int.ofNat N) (cl 0 C) (C.length+1) (cc (C.length+1)) (idle.map I) (need.map I) (Bp (C.length+1) s.1)=some (.bool true):=by
  unfold QM
  rw[p11',Ac,FW,Ac,Dj,Dj,EG,Dc,Ac,BP,Ac,Jv,Jv,BO,Ak,Ak,Ak,tI,tN,kI,kN]
  by_cases g:KW N C
  ·have h13:BI (n+13) 13 [.agg ⟨[I (Int.ofNat N),Sl.v 2 (cl 0 C)]⟩]=some (.tuple ⟨[Sl.v 1 (sl 0 need),I 0]⟩):=by rw[←hD];exact Acp (n+7) C h1 (by omega) (by omega) hC g
   rw[h13,Ac,FW,Ac,Dj,Dj,EG,Dc,Ac,BP,Ac,Ak,show nt (Bd (0:Int) 0)=false from rfl,AA,sI,Ac,FW,Ac,Dj,EG,BU,Ac,show nt true=false from rfl,AA,show Bd (0:Int) 0=true from rfl,Ak,show an (Nat.blt 0 (C.length+1)) true=true from by rw[CF,blt_eq,decide_eq_true (by omega)];rfl,Ak,K3 _ (show 0 < C.length+1 by omega),hb0,Fh g,Ac,BU,Ac,show bq true (bq true (!true))=false from rfl,AA,Ak,Ak,sN,Ac,FW,Ac,Dj,EG,BU,Ac,show nt true=false from rfl,AA,AA]
   exact last
  ·have h13:BI (n+13) 13 [.agg ⟨[I (Int.ofNat N),Sl.v 2 (cl 0 C)]⟩]=some (.tuple ⟨[Sl.v 1 (sl 2 []),I 12]⟩):=Acr (n+7) C h1 (by omega) (by omega) hC g
   rw[h13,Ac,FW,Ac,Dj,Dj,EG,Dc,Ac,BP,Ac,Ak,show nt (Bd (0:Int) 0)=false from rfl,AA,sI,Ac,FW,Ac,Dj,EG,BU,Ac,show nt true=false from rfl,AA,show Bd (12:Int) 0=false from rfl,AA,show an (Nat.blt 0 (C.length+1)) true=true from by rw[CF,blt_eq,decide_eq_true (by omega)];rfl,Ak,K3 _ (show 0 < C.length+1 by omega),hb0,FK g,Ac,BU,Ac,show bq true (bq false (!false))=false from rfl,AA,AA,show nt false=true from rfl,Ak,show nt (Bd (12:Int) 12)=false from rfl,AA]
   exact last
 have z1:=zTB (n:=C.length) (by omega)
 have z2:=zTB (n:=C.length+1) (by omega)
 rw[e];unfold m7_
 rw[h5',Ac,RL,Ac,Dj,Dj,EG,BP,Ac,show Bj 2 (Sl.v 2 (cl 0 C))=some (cl 0 C) from rfl,Ac,LZ,hkk _ (by omega),Ak,z1,BO,Ak,DC C.length (by omega),Cx,Ac,hkk _ (by omega),Ak,z2,BO,Ak]
 have o1:=bK (C.length+1) (fun _=>false)
 have o2:=bK C.length (fun _=>false)
 unfold cc at o1 o2
 rw[o1,o2,Ak,Ak,Ak,Ak]
 refine Eq.trans (congrArg (fun q=>oo q none _) h6) ?_
 show bb (Au Ah (Bp (C.length+1) s.1)) (bb (Au Ah (Bp C.length s.2)) (bb (Au Ah (Bp C.length s.2)) (bb (Au Ah (Bp (C.length+1) s.1)) (Pf (BI (n+13)) 1000000 1000000 0 0 0 0 (Int.ofNat C.length) (0:Int) (Int.ofNat N) (cl 0 C) C.length (cc C.length) (C.length+1) (cc (C.length+1)) ([]:List Value) ([]:List Value) (Bp C.length s.2) (Bp (C.length+1) s.1)) none) none) none) none=_
 simp only[BO,Ak]
 exact Eq.trans h76 m70
end Go.TbWM
set_option maxRecDepth 100000
namespace Go.TbWM
open Go Go.ChangeShapes Go.WideShapes Go.ChangeAt Go.RowKit Go.Sp Go.TbW
theorem wfU {n:Int} (h:(Lit.int .u8 n).wf=true):∃ m:Nat,n=Int.ofNat m∧m < 256:=by
 simp only[Lit.wf,Bool.and_eq_true,decide_eq_true_eq] at h
 have h1:(0:Int)≤n:=h.1
 have h2:n≤(255:Int):=h.2
 exact⟨n.toNat,(Int.toNat_of_nonneg h1).symm,by omega⟩
section
variable {P:Program} {t:TypeId} {xs:List Value}
theorem oO {e e3:TypeId} (ht:P.underlying t=some (.slice e)) (he:P.underlying e=some (.array 2 e3)) (h3:P.underlying e3=some (.int .u8)) (hc:P.cellsOf e=2) (h:M5 P t xs) :
 ∃ C:List (Nat×Nat),xs=[Sl.v 2 (ps C)]∧byte C:=by
 obtain⟨ls,hl,hs,rfl⟩:=h.slice_inv ht
 have:∃ C:List (Nat×Nat),C.length=ls.length∧ls.flatten=pl C∧byte C:=by
  clear hl h
  induction ls with
  | nil=>exact⟨[],rfl,rfl,by intro p hp;cases hp⟩
  | cons m ls ih =>
   obtain⟨C,h1,h2,h4⟩:=ih fun l hl=>hs l (by simp[hl])
   obtain⟨ms,k1,rfl,k3⟩:=(hs m (by simp)).array_inv he
   match ms,k1 with
   | [x, y], _ =>
    obtain⟨a,rfl,wa⟩:=(k3 x (by simp)).int_inv h3
    obtain⟨b,rfl,wb⟩:=(k3 y (by simp)).int_inv h3
    obtain⟨a,rfl,la⟩:=wfU wa
    obtain⟨b,rfl,lb⟩:=wfU wb
    refine⟨(a,b)::C,by simp[h1],by simp[h2,pl],?_⟩
    intro p hp
    rcases List.mem_cons.1 hp with rfl | hp
    ·exact⟨la,lb⟩
    ·exact h4 p hp
 obtain⟨C,h1,h2,h4⟩:=this
 refine⟨C,?_,h4⟩
 rw[hc,h2,←h1];rfl
end

end Go.TbWM
