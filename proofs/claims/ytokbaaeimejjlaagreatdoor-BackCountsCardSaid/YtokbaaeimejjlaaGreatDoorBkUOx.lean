/- Made from wip. -/
import Derived.Test.YtokbaaeimejjlaaGreatDoorBkUQx
import Derived.Test.YtokbaaeimejjlaaGreatDoorBkU7x

set_option maxRecDepth 100000
set_option maxHeartbeats 4000000
namespace Go.BkQ
open Go Go.Sp Go.BkUM Go.BkW
theorem p27 (k:Nat) (args:List Value):A7 (k+1) 27 args=m27 (A7 k) L args:=by kernel_rfl
theorem p28 (k:Nat) (args:List Value):A7 (k+1) 28 args=m28 (A7 k) L args:=by kernel_rfl
noncomputable def Fp (r c:Nat) (Q:List Nat) (t:Nat):Nat:=W Q.length (Ce r c t) (am Q)
theorem Kc {r c:Nat} {Q:List Nat} (h4:Q.length≤4) {us:List Nat} (hg:(r,c,us)∈BO):∀ t∈us,Fp r c Q t≤4 ^ 16:=fun t ht=>
 Nat.le_trans (ZG _ _ _) (Nat.le_trans (Nat.pow_le_pow_left h4 _) (Nat.pow_le_pow_right (by omega) (Ka hg ht).few))
theorem QH (F : Nat → Nat) : ∀ l : List Nat, DD F l = l.count 0 * F 0 + DD (fun t => if t = 0 then 0 else F t) l
 | []=>by simp[DD]
 | t :: r => by
  show F t+DD F r=(t::r).count 0*F 0+((if t=0 then 0 else F t)+DD _ r)
  rw[QH F r,List.count_cons]
  by_cases h:t=0
  ·subst h
   simp[Nat.add_mul];omega
  ·rw[if_neg h,if_neg (by simpa using h),Nat.add_zero];omega
theorem ZN {r c:Nat} {us:List Nat} (hg:(r,c,us)∈BO):us.count 0=1:=by
 have h:Au (fun p:Nat×Nat×List Nat=>Nat.beq (cnt 0 p.2.2) 1) BO=true:=by kernel_rfl
 rw[Bh,List.all_eq_true] at h
 have:=Nat.eq_of_beq_eq_true (h _ hg)
 rwa [lH] at this
theorem ZO {r c:Nat} {us:List Nat} (hg:(r,c,us)∈BO):Ce r c 0=List.replicate (r*c) 1:=by
 have hp:=FL hg
 have h:Au (fun p:Nat×Nat=>an (Nat.beq (len (Ce p.1 p.2 0)) (p.1*p.2)) (Au (fun x=>Nat.beq x 1) (Ce p.1 p.2 0))) Ja=true:=by kernel_rfl
 rw[Bh,List.all_eq_true] at h
 obtain⟨h1,h2⟩:=Av (h (r,c) (Gs ⟨hp.r1,hp.r4⟩ ⟨hp.c1,hp.c4⟩))
 have h1:=Nat.eq_of_beq_eq_true h1
 rw[AV] at h1
 rw[Bh,List.all_eq_true] at h2
 exact List.eq_replicate_iff.2 ⟨h1,fun x hx=>Nat.eq_of_beq_eq_true (h2 x hx)⟩
structure nM (r c k:Nat) (Q:List Nat):Prop where
 len:Q.length=k
 small:∀ x∈Q,x≤r*c
 sum:sm (am Q) Q.length=r*c
theorem ZP (n f g : Nat) {r c k : Nat} {us Q : List Nat} (hk : k = 1 ∨ k = 2 ∨ k = 3 ∨ k = 4) (hg : (r, c, us) ∈ BO) (hQ : nM r c k Q) (hf : Nat.beq g 2 = false) {t : Nat} (ht : t ∈ us) :
 A7 (n+90) 60 [.agg ⟨Ca (SH (Ce r c t))⟩,Sl.v 1 ⟨Q.length,g,Ca Q⟩]=some (I (.ofNat (Fp r c Q t))):=by
 have hp:=FL hg
 have hrc:r*c≤16:=Nat.mul_le_mul hp.r4 hp.c4
 have ho:=Ka hg ht
 have hpm:=ZK (l:=Ce r c t) fun x hx=>by have:=(ho.size x hx).2;omega
 have hl:=hQ.len
 have h := QF (n + (90 - Q.length * 20)) Q.length (by omega) (by omega) (SH (Ce r c t)) Q g rfl
  ⟨rfl,by rw[UN _ (by omega)];exact List.count_eq_zero.2 fun hm=>by have:=(ho.size 0 hm).1;omega,by rw[hpm.length_eq];exact ho.few,by rw[ZJ hpm,ho.sum,hQ.sum],by omega,by omega,fun x hx=>by have:=hQ.small x hx;omega⟩ hf
 rw[show n+(90 - Q.length*20)+Q.length*20=n+90 by omega] at h
 rw[h,WT hpm];rfl
theorem W9 (n f:Nat) {r c k j t:Nat} {us:List Nat} (hg:(r,c,us)∈BO) (hj:us[j]?=some t):A7 (n+1) 61 [Cv 0 (Gr r c k f us),I (.ofNat j)]=some (.agg ⟨Ca (SH (Ce r c t))⟩):=UL (ZH n f k) hg hj
theorem Aiq (g:Nat) (Q:List Nat):sl g (Q.map Int.ofNat)=⟨Q.length,g,Ca Q⟩:=by rw[UD,Kb]
theorem QI (n M f g : Nat) {r c k : Nat} {us Q : List Nat} (hk : k = 1 ∨ k = 2 ∨ k = 3 ∨ k = 4) (hg : (r, c, us) ∈ BO) (hQ : nM r c k Q) (hf : Nat.beq g 2 = false) : ∀ (d w i : Nat), i + d = us.length → d < w →
 PP (A7 (n+90)) M w ⟨Q.length,g,Ca Q⟩ 0 (Gr r c k f us) (.ofNat (DD (Fp r c Q) (us.take i))) (.ofNat us.length) (.ofNat i)=some (.tuple ⟨[I (.ofNat (DD (Fp r c Q) us / us.length)),I 0]⟩)
 | _,0,_,_,h=>by omega
 | 0, w + 1, i, hd, _ => by
  obtain rfl:i=us.length:=by omega
  obtain⟨u1,u8⟩:=Hy hg
  have hb:=Fb u8 (Kc (r:=r) (c:=c) (Q:=Q) (by have:=hQ.len;omega) hg) us.length
  rw[List.take_length] at hb ⊢
  show Ox (A7 (n+90)) M (PP (A7 (n+90)) M w) ⟨Q.length,g,Ca Q⟩ 0 (Gr r c k f us) (.ofNat (DD (Fp r c Q) us)) (.ofNat us.length) (.ofNat us.length)=_
  unfold Ox Uc
  simp only[Bp,Nat.lt_irrefl,decide_false,AA,ZM,Ac,Dc,Kb,ne0 u1,Ak,divN (show DD (Fp r c Q) us < 9223372036854775807 by omega)]
 | d + 1, w + 1, i, hd, hw => by
  have hi:i < us.length:=by omega
  obtain⟨u1,u8⟩:=Hy hg
  have hb:=Fb u8 (Kc (r:=r) (c:=c) (Q:=Q) (by have:=hQ.len;omega) hg) (i+1)
  rw[EN _ hi] at hb
  have h2:=W9 (n+89) f (k:=k) hg (List.getElem?_eq_getElem hi)
  have h3:=ZP n f g hk hg hQ hf (List.getElem_mem hi)
  have ih:=QI n M f g hk hg hQ hf d w (i+1) (by omega) (by omega)
  rw[EN _ hi] at ih
  show Ox (A7 (n+90)) M (PP (A7 (n+90)) M w) ⟨Q.length,g,Ca Q⟩ 0 (Gr r c k f us) (.ofNat (DD (Fp r c Q) (us.take i))) (.ofNat us.length) (.ofNat i)=_
  unfold Ox
  simp only[Bp,hi,decide_true,Ak,h2,Ac,RL,Hw,Cs,show (SH (Ce r c us[i])).length=17 from rfl,show an (Nat.beq 17 17) true=true from rfl,h3,BP,Aim,DC i (by omega)]
  rw[addN (by omega)]
  exact ih
theorem lJ : ∀ (Q : List Nat) (n : Nat), sm (am Q) Q.length = n → 1 ≤ Mn Q n
 | [],_,_=>Nat.le_refl 1
 | x :: Q, n, h => by
  rw[show (x::Q).length=Q.length+1 from rfl,QE] at h
  have hC:∀ n k,k≤n→1≤C n k:=by
   intro n
   induction n with
   | zero => intro k hk; obtain rfl : k = 0 := by omega
             exact Nat.le_refl 1
   | succ n ih =>
    intro k hk
    cases k with
    | zero=>exact Nat.le_refl 1
    | succ k=>exact Nat.le_trans (ih k (by omega)) (Nat.le_add_right _ _)
  exact Nat.mul_le_mul (hC n x (by omega)) (lJ Q (n - x) (by omega))
theorem Po (n M g : Nat) {R C' K : Int} {s : Sl} {Q : List Nat} (hQl : Q.length ≤ 4) : ∀ (d w i out left : Nat), i + d = Q.length → d < w → left ≤ 16 → sm (am (Q.drop i)) (Q.drop i).length = left → out * Mn (Q.drop i) left ≤ 4 ^ 16 →
 OD (A7 (n+1)) M w ⟨Q.length,g,Ca Q⟩ (.ofNat out) (.ofNat left) (.ofNat i) R C' K s=OB (A7 (n+1)) M ⟨Q.length,g,Ca Q⟩ (.ofNat (out*Mn (Q.drop i) left)) R C' K s
 | _,0,_,_,_,_,h,_,_,_=>by omega
 | 0, w + 1, i, out, left, hd, _, _, _, _ => by
  obtain rfl:i=Q.length:=by omega
  show OC (A7 (n+1)) M (OD (A7 (n+1)) M w) ⟨Q.length,g,Ca Q⟩ (.ofNat out) (.ofNat left) (.ofNat Q.length) R C' K s=_
  unfold OC
  simp only[Bp,Nat.lt_irrefl,decide_false,AA]
  rw[List.drop_length,show Mn [] left=1 from rfl,Nat.mul_one]
 | d + 1, w + 1, i, out, left, hd, hw, hl, hs, hb => by
  have hi:i < Q.length:=by omega
  have hb1:an (Nat.blt i Q.length) true=true:=by rw[CF,blt_eq,decide_eq_true hi];rfl
  have hdr:=List.drop_eq_getElem_cons hi
  rw[hdr] at hs hb
  rw[show (Q[i]::Q.drop (i+1)).length=(Q.drop (i+1)).length+1 from rfl,QE] at hs
  have hMn:Mn (Q[i]::Q.drop (i+1)) left=C left Q[i]*Mn (Q.drop (i+1)) (left - Q[i]):=rfl
  have hpos:=lJ (Q.drop (i+1)) (left - Q[i]) (by omega)
  rw[hMn,←Nat.mul_assoc] at hb
  have hout:out*C left Q[i]≤4 ^ 16:=Nat.le_trans (Nat.le_mul_of_pos_right _ hpos) hb
  have hch:=ZL n (m:=left) (n:=Q[i]) (by omega) hl
  have ih:=Po n M g (R:=R) (C':=C') (K:=K) (s:=s) hQl d w (i+1) (out*C left Q[i]) (left - Q[i]) (by omega) (by omega) (by omega) (by omega) hb
  show OC (A7 (n+1)) M (OD (A7 (n+1)) M w) ⟨Q.length,g,Ca Q⟩ (.ofNat out) (.ofNat left) (.ofNat i) R C' K s=_
  unfold OC
  simp only[Bp,hi,decide_true,Ak,Cx,Ac,hb1,nv1 hi,BP,hch,kW (show Q[i]≤left by omega) (by omega),mulN (show out*C left Q[i] < 9223372036854775807 by omega),DC i (by omega)]
  rw[ih,hdr,hMn,Nat.mul_assoc]
noncomputable def GZ (r c:Nat) (Q:List Nat) (t:Nat):Nat:=if t=0 then 0 else Fp r c Q t
theorem nN (Q:List Nat):Aq (Q.length*1) (Ca Q)=Ca Q:=by
 rw[Cg,Nat.mul_one]
 refine List.take_of_length_le ?_
 have:=Hw Q
 rw[AV] at this;omega
theorem UU (n M f g : Nat) {r c k z0 : Nat} {us Q : List Nat} (hk : k = 1 ∨ k = 2 ∨ k = 3 ∨ k = 4) (hg : (r, c, us) ∈ BO) (hQ : nM r c k Q) (hz0 : z0 ≤ 4 ^ 16) : ∀ (d w i : Nat), i + d = us.length → d < w →
 OA (A7 (n+20)) M w ⟨Q.length,g,Ca Q⟩ (.ofNat (z0+DD (GZ r c Q) (us.take i))) (.ofNat i) (.ofNat r) (.ofNat c) (.ofNat k) ⟨us.length,f,Ca us⟩=some (.tuple ⟨[I (.ofNat ((z0+DD (GZ r c Q) us) / us.length)),I 0]⟩)
 | _,0,_,_,h=>by omega
 | 0, w + 1, i, hd, _ => by
  obtain rfl:i=us.length:=by omega
  obtain⟨u1,u8⟩:=Hy hg
  have hr:∀ t∈us,GZ r c Q t≤4 ^ 16:=fun t ht=>by
   unfold GZ;split
   ·omega
   ·exact Kc (by have:=hQ.len;omega) hg t ht
  have hb:=Fb u8 hr us.length
  rw[List.take_length] at hb ⊢
  show Oz (A7 (n+20)) M (OA (A7 (n+20)) M w) ⟨Q.length,g,Ca Q⟩ (.ofNat (z0+DD (GZ r c Q) us)) (.ofNat us.length) (.ofNat r) (.ofNat c) (.ofNat k) ⟨us.length,f,Ca us⟩=_
  unfold Oz Ud
  simp only[Bp,Nat.lt_irrefl,decide_false,AA,ne0 u1,Ak,divN (show z0+DD (GZ r c Q) us < 9223372036854775807 by omega)]
 | d + 1, w + 1, i, hd, hw => by
  have hi:i < us.length:=by omega
  have hb1:an (Nat.blt i us.length) true=true:=by rw[CF,blt_eq,decide_eq_true hi];rfl
  obtain⟨u1,u8⟩:=Hy hg
  have hp:=FL hg
  have hrc:r*c≤16:=Nat.mul_le_mul hp.r4 hp.c4
  have hql:=hQ.len
  have hm:=List.getElem_mem hi
  have hr:∀ t∈us,GZ r c Q t≤4 ^ 16:=fun t ht=>by
   unfold GZ;split
   ·omega
   ·exact Kc (by omega) hg t ht
  have hb:=Fb u8 hr (i+1)
  rw[EN _ hi] at hb
  have ih:=UU n M f g hk hg hQ hz0 d w (i+1) (by omega) (by omega)
  rw[EN _ hi] at ih
  show Oz (A7 (n+20)) M (OA (A7 (n+20)) M w) ⟨Q.length,g,Ca Q⟩ (.ofNat (z0+DD (GZ r c Q) (us.take i))) (.ofNat i) (.ofNat r) (.ofNat c) (.ofNat k) ⟨us.length,f,Ca us⟩=_
  unfold Oz PQ
  by_cases ht:us[i]=0
  ·have e0 : GZ r c Q us[i] = 0 := by unfold GZ; rw [if_pos ht]
   rw[e0,Nat.add_zero] at ih
   have hz:nt (Bd (Int.ofNat us[i]) 0)=false:=by rw[ht];rfl
   simp only[Bp,hi,decide_true,Ak,Cx,Ac,hb1,nv1 hi,BP,hz,AA,DC i (by omega)]
   exact ih
  ·have e0 : GZ r c Q us[i] = Fp r c Q us[i] := by unfold GZ; rw [if_neg ht]
   rw[e0] at ih hb
   have hz:nt (Bd (Int.ofNat us[i]) 0)=true:=ne0 (by omega)
   have ho:=Ka hg hm
   have hfew:=ho.few
   have h3:=KS (n+17) (K:=.ofNat k) (s:=⟨us.length,f,Ca us⟩) hg hm
   have hp2:=Pg (n+(19 - (Ce r c us[i]).length)) (m:=Q.length) (c:=2*Q.length+0) (by omega) (by omega) (Ce r c us[i]) 0 Q hfew rfl rfl (fun x hx=>by have:=hQ.small x hx;omega)
   rw[show n+(19 - (Ce r c us[i]).length)+(Ce r c us[i]).length+1=n+20 by omega] at hp2
   have hq0:Nat.beq Q.length 0=false:=by
    cases e:Nat.beq Q.length 0 with
    | false=>rfl
    | true=>have:=Nat.eq_of_beq_eq_true e;omega
   have hroom:EQ Q.length 8=true:=Nat.ble_eq_true_of_le (by omega)
   have hor:Dp (Nat.ble 2 (2*Q.length+0)) (MQ (Ca Q))=true:=qW (by omega) _
   simp only[Bp,hi,decide_true,Ak,Cx,Ac,hb1,nv1 hi,BP,hz,h3,Dc,hq0,AA,Nat.zero_add,hroom,nN,hor,Cs,hp2,FW,Dj,EG,RL,DC i (by omega)]
   rw[show W Q.length (Ce r c us[i]) (am Q)=Fp r c Q us[i] from rfl,addN (by omega),Nat.add_assoc]
   exact ih
end Go.BkQ
set_option maxRecDepth 100000
set_option maxHeartbeats 4000000
namespace Go.BkQ
open Go Go.Sp Go.BkUM Go.BkW
theorem AbP (r c k f:Nat) (us:List Nat):AL (Gr r c k f us) (0+0+0)=some (I (.ofNat r)):=rfl
theorem AbQ (r c k f:Nat) (us:List Nat):AL (Gr r c k f us) (0+0+1)=some (I (.ofNat c)):=rfl
theorem Aj4 (r c k f:Nat) (us:List Nat):AL (Gr r c k f us) (0+0+2)=some (I (.ofNat k)):=rfl
abbrev InR (n:Nat) (z:Int):Prop:=0≤z∧z≤Int.ofNat n
theorem Yr {r c:Nat} (h:r*c≤16):Aj .i64 (Int.mul (.ofNat r) (.ofNat c)) = .ofNat (r*c):=mulN (by omega)
theorem QJ (n M f g : Nat) {r c k : Nat} {us Q : List Nat} (hrc : r * c ≤ 16) (hQ4 : Q.length ≤ 4) (hQ : ∀ x ∈ Q, x ≤ r * c) : ∀ (d w i : Nat), i + d = Q.length → d < w →
 Ke (A7 (n+1)) M w ⟨Q.length,g,Ca Q⟩ 0 (Gr r c k f us) (.ofNat (sm (am Q) i)) ⟨Q.length,g,Ca Q⟩ (.ofNat Q.length) (.ofNat i)=Oy (A7 (n+1)) M ⟨Q.length,g,Ca Q⟩ 0 (Gr r c k f us) (.ofNat (sm (am Q) Q.length))
 | _,0,_,_,h=>by omega
 | 0, w + 1, i, hd, _ => by
  obtain rfl:i=Q.length:=by omega
  show KV (A7 (n+1)) M (Ke (A7 (n+1)) M w) ⟨Q.length,g,Ca Q⟩ 0 (Gr r c k f us) (.ofNat (sm (am Q) Q.length)) ⟨Q.length,g,Ca Q⟩ (.ofNat Q.length) (.ofNat Q.length)=_
  unfold KV
  simp only[Bp,Nat.lt_irrefl,decide_false,AA]
 | d + 1, w + 1, i, hd, hw => by
  have hi:i < Q.length:=by omega
  have hb1:an (Nat.blt i Q.length) true=true:=by rw[CF,blt_eq,decide_eq_true hi];rfl
  have hx:=hQ _ (List.getElem_mem hi)
  have hsm:sm (am Q) i≤i*16:=UF fun j hj=>by rw[LX (show j < Q.length by omega)];exact Nat.le_trans (hQ _ (List.getElem_mem _)) hrc
  have hin:=LQ n 0 (.ofNat Q[i]) (.ofNat (r*c))
  rw[decide_eq_true (show (0:Int)≤Int.ofNat Q[i]∧Int.ofNat Q[i]≤Int.ofNat (r*c) from ⟨by show (0:Int)≤(Q[i]:Int);omega,by show (Q[i]:Int)≤((r*c:Nat):Int);omega⟩)] at hin
  have ih:=QJ n M f g (k:=k) (us:=us) hrc hQ4 hQ d w (i+1) (by omega) (by omega)
  have hs1:sm (am Q) (i+1)=sm (am Q) i+Q[i]:=by rw[←LX hi];rfl
  rw[hs1] at ih
  show KV (A7 (n+1)) M (Ke (A7 (n+1)) M w) ⟨Q.length,g,Ca Q⟩ 0 (Gr r c k f us) (.ofNat (sm (am Q) i)) ⟨Q.length,g,Ca Q⟩ (.ofNat Q.length) (.ofNat i)=_
  unfold KV
  simp only[Bp,hi,decide_true,Ak,Cx,Ac,hb1,nv1 hi,BP,AbP,AbQ,Yr hrc,hin,BU,show nt true=false from rfl,AA,DC i (by omega),addN (show sm (am Q) i+Q[i] < 9223372036854775807 by omega)]
  exact ih
theorem UV (n M f g : Nat) {r c k : Nat} {us : List Nat} {x : List Int} (hrc : r * c ≤ 16) (hx : x.length ≤ 4) : ∀ (d w i : Nat) (z : Int), i + d = x.length → d < w → (∃ y ∈ x.drop i, ¬ InR (r * c) y) →
 Ke (A7 (n+1)) M w (sl g x) 0 (Gr r c k f us) z (sl g x) (.ofNat x.length) (.ofNat i)=some (.tuple ⟨[I 0,I 1]⟩)
 | _,0,_,_,_,h,_=>by omega
 | 0, w + 1, i, z, hd, _, hy => by
  obtain⟨y,hy,_⟩:=hy
  rw[List.drop_eq_nil_of_le (by omega)] at hy;cases hy
 | d + 1, w + 1, i, z, hd, hw, hy => by
  have hi:i < x.length:=by omega
  have hb1:an (Nat.blt i x.length) true=true:=by rw[CF,blt_eq,decide_eq_true hi];rfl
  have hin:=LQ n 0 x[i] (.ofNat (r*c))
  have ih:=fun z h=>UV n M f g (k:=k) (us:=us) hrc hx d w (i+1) z (by omega) (by omega) h
  show KV (A7 (n+1)) M (Ke (A7 (n+1)) M w) (sl g x) 0 (Gr r c k f us) z (sl g x) (.ofNat x.length) (.ofNat i)=_
  unfold KV
  simp only[Bp,hi,decide_true,Ak,Cx,Ac,I4,GX,hb1,qV hi,BP,AbP,AbQ,Yr hrc,hin,BU,DC i (by omega)]
  by_cases h:InR (r*c) x[i]
  ·rw [decide_eq_true (show 0 ≤ x[i] ∧ x[i] ≤ Int.ofNat (r * c) from h), show nt true = false from rfl, AA]
   refine ih _ ?_
   obtain⟨y,hy,hn⟩:=hy
   rw[List.drop_eq_getElem_cons hi] at hy
   rcases List.mem_cons.1 hy with rfl | hy
   ·exact absurd h hn
   ·exact⟨y,hy,hn⟩
  ·rw[decide_eq_false (show ¬ (0≤x[i]∧x[i]≤Int.ofNat (r*c)) from h)];rfl
theorem lK (pu:Af) (M w:Nat) {s t:Sl} {e z all:Int} {i:Nat} {R C' K:Int} (he:e≠0):Gu pu M (w+1) s e z all (.ofNat i) R C' K t=some (.tuple ⟨[I 0,I e]⟩):=by
 show Je pu M (Gu pu M w) s e z all (.ofNat i) R C' K t=_
 unfold Je Jd MG Qp OE
 rw[Dn,decide_eq_false he]
 cases AY (Int.ofNat i) (Int.ofNat s.n) <;> rfl
theorem UW (n M g : Nat) {r c k : Nat} {s : Sl} {Q : List Nat} (hrc : r * c ≤ 16) (hQ4 : Q.length ≤ 4) (hQ : ∀ x ∈ Q, x ≤ r * c) : ∀ (d w i : Nat), i + d = Q.length → d < w →
 Gu (A7 (n+1)) M w ⟨Q.length,g,Ca Q⟩ 0 (.ofNat (sm (am Q) i)) (.ofNat (r*c)) (.ofNat i) (.ofNat r) (.ofNat c) (.ofNat k) s=MG (A7 (n+1)) M ⟨Q.length,g,Ca Q⟩ 0 (.ofNat (sm (am Q) Q.length)) (.ofNat (r*c)) (.ofNat r) (.ofNat c) (.ofNat k) s
 | _,0,_,_,h=>by omega
 | 0, w + 1, i, hd, _ => by
  obtain rfl:i=Q.length:=by omega
  show Je (A7 (n+1)) M (Gu (A7 (n+1)) M w) ⟨Q.length,g,Ca Q⟩ 0 (.ofNat (sm (am Q) Q.length)) (.ofNat (r*c)) (.ofNat Q.length) (.ofNat r) (.ofNat c) (.ofNat k) s=_
  unfold Je Jd
  simp only[Bp,Nat.lt_irrefl,decide_false,AA]
 | d + 1, w + 1, i, hd, hw => by
  have hi:i < Q.length:=by omega
  have hb1:an (Nat.blt i Q.length) true=true:=by rw[CF,blt_eq,decide_eq_true hi];rfl
  have hx:=hQ _ (List.getElem_mem hi)
  have hsm:sm (am Q) i≤i*16:=UF fun j hj=>by rw[LX (show j < Q.length by omega)];exact Nat.le_trans (hQ _ (List.getElem_mem _)) hrc
  have hin:=QB n (.ofNat Q[i]) 0 (.ofNat (r*c))
  rw[decide_eq_true (show (0:Int)≤Int.ofNat Q[i]∧Int.ofNat Q[i]≤Int.ofNat (r*c) from ⟨by show (0:Int)≤(Q[i]:Int);omega,by show (Q[i]:Int)≤((r*c:Nat):Int);omega⟩)] at hin
  have ih:=UW n M g (k:=k) (s:=s) hrc hQ4 hQ d w (i+1) (by omega) (by omega)
  have hs1:sm (am Q) (i+1)=sm (am Q) i+Q[i]:=by rw[←LX hi];rfl
  rw[hs1] at ih
  show Je (A7 (n+1)) M (Gu (A7 (n+1)) M w) ⟨Q.length,g,Ca Q⟩ 0 (.ofNat (sm (am Q) i)) (.ofNat (r*c)) (.ofNat i) (.ofNat r) (.ofNat c) (.ofNat k) s=_
  unfold Je Jd K6
  simp only[Bp,hi,decide_true,Ak,show Bd (0:Int) 0=true from rfl,Cx,Ac,hb1,nv1 hi,BP,hin,BU,show nt true=false from rfl,AA,DC i (by omega),addN (show sm (am Q) i+Q[i] < 9223372036854775807 by omega)]
  exact ih
theorem Yt (n M g : Nat) {r c k : Nat} {s : Sl} {x : List Int} (hx : x.length ≤ 4) : ∀ (d w i : Nat) (z : Int), i + d = x.length → d + 1 < w → (∃ y ∈ x.drop i, ¬ InR (r * c) y) →
 Gu (A7 (n+1)) M w (sl g x) 0 z (.ofNat (r*c)) (.ofNat i) (.ofNat r) (.ofNat c) (.ofNat k) s=some (.tuple ⟨[I 0,I 1]⟩)
 | _,0,_,_,_,h,_=>by omega
 | 0, w + 1, i, z, hd, _, hy => by
  obtain⟨y,hy,_⟩:=hy
  rw[List.drop_eq_nil_of_le (by omega)] at hy;cases hy
 | d + 1, w + 1, i, z, hd, hw, hy => by
  have hi:i < x.length:=by omega
  have hb1:an (Nat.blt i x.length) true=true:=by rw[CF,blt_eq,decide_eq_true hi];rfl
  have hin:=QB n x[i] 0 (.ofNat (r*c))
  have ih:=fun z h=>Yt n M g (r:=r) (c:=c) (k:=k) (s:=s) hx d w (i+1) z (by omega) (by omega) h
  show Je (A7 (n+1)) M (Gu (A7 (n+1)) M w) (sl g x) 0 z (.ofNat (r*c)) (.ofNat i) (.ofNat r) (.ofNat c) (.ofNat k) s=_
  unfold Je Jd K6
  simp only[Bp,I4,GX,hi,decide_true,Ak,show Bd (0:Int) 0=true from rfl,Cx,Ac,hb1,qV hi,BP,hin,BU,DC i (by omega)]
  by_cases h:InR (r*c) x[i]
  ·rw [decide_eq_true (show 0 ≤ x[i] ∧ x[i] ≤ Int.ofNat (r * c) from h), show nt true = false from rfl, AA]
   refine ih _ ?_
   obtain⟨y,hy,hn⟩:=hy
   rw[List.drop_eq_getElem_cons hi] at hy
   rcases List.mem_cons.1 hy with rfl | hy
   ·exact absurd h hn
   ·exact⟨y,hy,hn⟩
  ·rw [decide_eq_false (show ¬ (0 ≤ x[i] ∧ x[i] ≤ Int.ofNat (r * c)) from h), show nt false = true from rfl, Ak]
   obtain⟨w,rfl⟩:∃ v,w=v+1:=⟨w - 1,by omega⟩
   exact lK _ _ _ (by omega)
theorem ZQ (n f g:Nat) {R C K:Int} {ts x:List Int} (hl:ts.length≤100) (hf:Nat.beq g 2=false):∃ a e,A7 (n+100) 27 [.agg ⟨[I R,I C,I K,Sl.v 1 (sl f ts)]⟩,Sl.v 1 (sl g x)]=some (.tuple ⟨[I a,I e]⟩)∧A7 (n+100) 28 [.agg ⟨[I R,I C,I K,Sl.v 1 (sl f ts)]⟩,Sl.v 1 (sl g x)]=some (.tuple ⟨[I a,I e]⟩):=by
 rw[p27,p28]
 have hc:=O9 (n+93) f (R:=R) (C:=C) (K:=K) hl
 unfold S at hc
 by_cases h:Fj R C K ts=0
 ·rw [h] at hc
  obtain⟨r,c,k,us,rfl,rfl,rfl,rfl,hg,hk⟩:=LW h
  obtain⟨u1,u8⟩:=Hy hg
  have hp:=FL hg
  have hrc:r*c≤16:=Nat.mul_le_mul hp.r4 hp.c4
  have h1:=L6 (n+93) f hk hg
  have e27:m27 (A7 (n+99)) L [.agg ⟨[I (.ofNat r),I (.ofNat c),I (.ofNat k),Sl.v 1 (sl f (us.map Int.ofNat))]⟩,Sl.v 1 (sl g x)]=Yz (A7 (n+99)) L (.ofNat r) (.ofNat c) (.ofNat k) (sl f (us.map Int.ofNat)) (sl g x):=by kernel_rfl
  have e28:m28 (A7 (n+99)) L [.agg ⟨[I (.ofNat r),I (.ofNat c),I (.ofNat k),Sl.v 1 (sl f (us.map Int.ofNat))]⟩,Sl.v 1 (sl g x)]=YA (A7 (n+99)) L (.ofNat r) (.ofNat c) (.ofNat k) (sl f (us.map Int.ofNat)) (sl g x):=by kernel_rfl
  rw[e27,e28]
  unfold Yz YA K7 OG
  simp only[h1,Ac,FW,Dj,EG,SI,NA,Ak,BP,lI,AA,Aj4,hc,show Bd (0:Int) 0=true from rfl,I4,Yr hrc]
  by_cases hlen:x.length=k
  ·rw [Dn, decide_eq_true (by rw [hlen]), show nt true = false from rfl, AA, AA]
   by_cases hbad:∃ y∈x.drop 0,¬ InR (r*c) y
   ·have c1 := UV (n + 98) L f g (k := k) (us := us) hrc (by omega) x.length L 0 0 (by omega) (by show _ < 1000000; omega) hbad
    have c2:=Yt (n+98) L g (k:=k) (s:=sl f (us.map Int.ofNat)) (by omega) x.length L 0 0 (by omega) (by show _ < 1000000;omega) hbad
    have c1:Ke (A7 (n+99)) L L (sl g x) 0 (Gr r c k f us) 0 (sl g x) (.ofNat x.length) 0=some (.tuple ⟨[I 0,I 1]⟩):=c1
    have c2:Gu (A7 (n+99)) L L (sl g x) 0 0 (.ofNat (r*c)) 0 (.ofNat r) (.ofNat c) (.ofNat k) (sl f (us.map Int.ofNat))=some (.tuple ⟨[I 0,I 1]⟩):=c2
    rw[c1,c2]
    exact⟨0,1,rfl,rfl⟩
   ·have hgood : ∀ y ∈ x, InR (r * c) y := fun y hy => Classical.byContradiction fun hn => hbad ⟨y, by rwa [List.drop_zero], hn⟩
    obtain⟨Q,rfl⟩:∃ Q:List Nat,x=Q.map Int.ofNat:=⟨x.map Int.toNat,by
     rw[List.map_map]
     exact((List.map_congr_left fun y hy=>Int.toNat_of_nonneg (hgood y hy).1).trans (List.map_id x)).symm⟩
    have hQ:∀ q∈Q,q≤r*c:=fun q hq=>by
     have:=(hgood (q:Int) (List.mem_map_of_mem hq)).2
     have:(q:Int)≤((r*c:Nat):Int):=this
     omega
    have hQl:Q.length=k:=by simpa using hlen
    rw[Aiq,List.length_map]
    have a1:=QJ (n+98) L f g (k:=k) (us:=us) (Q:=Q) hrc (by omega) hQ Q.length L 0 (by omega) (by show _ < 1000000;omega)
    have a2:=UW (n+98) L g (k:=k) (s:=sl f (us.map Int.ofNat)) (Q:=Q) hrc (by omega) hQ Q.length L 0 (by omega) (by show _ < 1000000;omega)
    have a1:Ke (A7 (n+99)) L L ⟨Q.length,g,Ca Q⟩ 0 (Gr r c k f us) 0 ⟨Q.length,g,Ca Q⟩ (.ofNat Q.length) 0=Oy (A7 (n+99)) L ⟨Q.length,g,Ca Q⟩ 0 (Gr r c k f us) (.ofNat (sm (am Q) Q.length)):=a1
    have a2:Gu (A7 (n+99)) L L ⟨Q.length,g,Ca Q⟩ 0 0 (.ofNat (r*c)) 0 (.ofNat r) (.ofNat c) (.ofNat k) (sl f (us.map Int.ofNat))=MG (A7 (n+99)) L ⟨Q.length,g,Ca Q⟩ 0 (.ofNat (sm (am Q) Q.length)) (.ofNat (r*c)) (.ofNat r) (.ofNat c) (.ofNat k) (sl f (us.map Int.ofNat)):=a2
    rw[a1,a2]
    unfold Oy MG Qp OE
    simp only[AbP,AbQ,ZM,Ac,BP,Dc,Yr hrc,show Bd (0:Int) 0=true from rfl,Ak,Kb]
    by_cases hsum:sm (am Q) Q.length=r*c
    ·rw [hsum, Dn, decide_eq_true rfl]
     simp only[show nt true=false from rfl,AA]
     have hA:nM r c k Q:=⟨hQl,hQ,hsum⟩
     have b1:=QI (n+9) L f g hk hg hA hf us.length L 0 (by omega) (by show _ < 1000000;omega)
     have hMn:Mn Q (r*c)≤4 ^ 16:=by
      rw[←WY Q (r*c) hsum]
      refine Nat.le_trans (ZG _ _ _) (Nat.le_trans (Nat.pow_le_pow_left (show Q.length≤4 by omega) _) (Nat.pow_le_pow_right (by omega) ?_))
      rw[List.length_replicate];exact hrc
     have b2:=Po (n+98) L g (R:=.ofNat r) (C':=.ofNat c) (K:=.ofNat k) (s:=sl f (us.map Int.ofNat)) (Q:=Q) (by omega) Q.length L 0 1 (r*c) (by omega) (by show _ < 1000000;omega) hrc (by rw[List.drop_zero];exact hsum) (by rw[List.drop_zero,Nat.one_mul];exact hMn)
     rw[List.drop_zero,Nat.one_mul] at b2
     have b2:OD (A7 (n+99)) L L ⟨Q.length,g,Ca Q⟩ 1 (.ofNat (r*c)) 0 (.ofNat r) (.ofNat c) (.ofNat k) (sl f (us.map Int.ofNat))=OB (A7 (n+99)) L ⟨Q.length,g,Ca Q⟩ (.ofNat (Mn Q (r*c))) (.ofNat r) (.ofNat c) (.ofNat k) (sl f (us.map Int.ofNat)):=b2
     have b3:=UU (n+79) L f g (z0:=Mn Q (r*c)) hk hg hA hMn us.length L 0 (by omega) (by show _ < 1000000;omega)
     have hsplit:DD (Fp r c Q) us=Mn Q (r*c)+DD (GZ r c Q) us:=by
      rw[QH,ZN hg,Nat.one_mul]
      congr 1
      unfold Fp
      rw[ZO hg,WY Q (r*c) hsum]
     refine⟨.ofNat (DD (Fp r c Q) us / us.length),0,b1,?_⟩
     rw[b2,hsplit]
     unfold OB
     rw[Aiq]
     exact b3
    ·rw [Dn, decide_eq_false (show ¬ Int.ofNat (sm (am Q) Q.length) = Int.ofNat (r * c) from fun e => hsum (Int.ofNat.inj e))]
     exact⟨0,17,rfl,rfl⟩
  ·rw [Dn, decide_eq_false (show ¬ Int.ofNat x.length = Int.ofNat k from fun e => hlen (Int.ofNat.inj e))]
   exact⟨0,5,rfl,lK (w:=999999) (i:=0) _ _ (by omega)⟩
 ·have h1 := Jw (n + 93) f (R := R) (C := C) (K := K) hl h
  unfold S at h1
  refine⟨0,Fj R C K ts,?_,?_⟩
  ·show Yz (A7 (n + 99)) L R C K (sl f ts) (sl g x) = _
   unfold Yz
   simp only[h1,Ac,FW,Dj,EG,Pm,Nz,AA,LZ,Ak,BP,Dn,decide_eq_false h,show nt false=true from rfl]
  ·show YA (A7 (n + 99)) L R C K (sl f ts) (sl g x) = _
   unfold YA K7 OG
   simp only[hc,Ac,BP,Dn,decide_eq_false h,AA]
   exact lK (w:=999999) (i:=0) _ _ h
theorem VW (k:Nat) (args:List Value):A7 (k+1) 10090 args=K8 (A7 k) L args:=by kernel_rfl
theorem countsLaw (n f g:Nat) {R C K z:Int} {ts x:List Int} (hf:Nat.beq g 2=false):A7 (n+101) 5 [.agg ⟨[I R,I C,I K,S f ts]⟩,I z,S g x]=some (.bool true):=by
 have e:A7 (n+101) 5 [.agg ⟨[I R,I C,I K,S f ts]⟩,I z,S g x]=m5_ (A7 (n+100)) L R C K (sl f ts) z (sl g x):=by kernel_rfl
 rw[e]
 have e1:A7 (n+100) 10090 [(.agg ⟨[I R,I C,I K,(Sl.v 1 (sl f ts))]⟩),(Sl.v 1 (sl g x)),(Sl.v 1 (Sl.mk 0 2 []))]=some (.tuple ⟨[.bool (decide (30 < ts.length∨60 < x.length))]⟩):=by
  rw[VW]
  show bb (AY (.ofNat 30) (.ofNat ts.length)) (some (Value.tuple ⟨[(.bool true)]⟩)) (bb (AY (.ofNat 60) (.ofNat x.length)) (some (Value.tuple ⟨[(.bool true)]⟩)) (some (Value.tuple ⟨[(.bool (AY (.ofNat 60) (.ofNat 0)))]⟩)))=_
  rw[Bp,Bp]
  by_cases h1:30 < ts.length
  ·rw[decide_eq_true h1,decide_eq_true (.inl h1:30 < ts.length∨60 < x.length)];rfl
  ·rw [decide_eq_false h1]
   by_cases h2:60 < x.length
   ·rw[decide_eq_true h2,decide_eq_true (.inr h2:30 < ts.length∨60 < x.length)];rfl
   ·rw[decide_eq_false h2,show decide (30 < ts.length∨60 < x.length)=false from decide_eq_false (by omega)];rfl
 have hw:A7 (n+100) 10 []=some (.bool true):=by rw[p10];rfl
 unfold m5_
 simp only[e1,Ac,FW,Dj,EG,BU,hw]
 by_cases hl:30 < ts.length∨60 < x.length
 ·rw[decide_eq_true hl];rfl
 ·rw [decide_eq_false hl, AA]
  obtain⟨a1,e1,s1,s2⟩:=SK (n+92) f (R:=R) (C:=C) (K:=K) (z:=z) (ts:=ts) (by omega)
  obtain⟨a2,e2,t1,t2⟩:=WZ (n+92) f (R:=R) (C:=C) (K:=K) (ts:=ts) (by omega)
  obtain⟨a3,e3,w1,w2⟩:=ZQ n f g (R:=R) (C:=C) (K:=K) (ts:=ts) (x:=x) (by omega) hf
  simp only[s1,s2,t1,t2,w1,w2,Ac,FW,Dj,EG,BP,Dn,decide_eq_true,Ak]
  rfl
end Go.BkQ
