/- MendOne: the law. -/
import Derived.Test.YtlgmapibifphaaaDoorMdRgx

set_option maxRecDepth 100000
set_option maxHeartbeats 4000000
namespace Go.MnOM
open Go Go.Sp Go.MnO Go.MdM Go.RgP
theorem IB.ord {K:Nat} {h w:List Int} (t:IB K h w):MU w h:=⟨by have:=t.len;omega,t.cnt⟩
theorem Wo {K:Nat} {l:List Int} (hK:K≤8) (h:MF K l):UT l:=fun x hx=>by
 obtain⟨a,b⟩:=h x hx
 exact⟨a,by omega⟩
theorem ZL {K:Nat} {h w:List Int} (t:IB K h w):CY h w=Int.ofNat (Hz w h):=by
 have hl:=t.len
 rw[Wl hl]
 have hm:=SI (N:=h.length) (H:=fn h) (W:=fn w) h.length al (by rw[Jv];exact Nat.le_refl _)
 rw[Jv] at hm
 have e:(fun i=>al i && !decide (fn h i=fn w i))=Ow h w:=by
  funext i
  unfold Ow
  show (true && !decide (fn h i=fn w i)) = !(fn h i == fn w i)
  by_cases c:fn h i=fn w i
  ·simp[c]
  ·simp[c]
 rw[e] at hm
 have h1:=dV (N:=h.length) (H:=fn h) (W:=fn w) (Ow h w)
 unfold Hz
 rw[hl]
 have e2:h.length - M h.length (fl h) (fl w) al=card h.length (Ow h w) - M h.length (fn h) (fn w) (Ow h w):=hm
 rw[e2]
 show ((card h.length (Ow h w):Nat):Int) - ((M h.length (fn h) (fn w) (Ow h w):Nat):Int)=((card h.length (Ow h w) - M h.length (fn h) (fn w) (Ow h w):Nat):Int)
 omega
theorem IB.sw {K:Nat} {h w:List Int} (t:IB K h w) {a b:Nat} (ha:a < h.length) (hb:b < h.length) (hab:a≠b):IB K (sw h a b) w:=by
 have o:=OO t.ord ha hb hab
 exact ⟨t.k1, t.k5, by rw [Gt]; exact t.n1, by rw [Gt]; exact t.n10, by rw [Gt]; exact t.len, fun x hx => t.iw x (by
  have:=o.2 x
  rw[←List.count_pos_iff,←this,List.count_pos_iff];exact hx),t.iw,o.2⟩
theorem Wp {K:Nat} {h w:List Int} (t:IB K h w) {r:List Nat} (hr:r∈C8 h w) {i k:Nat} (hik:i < k) (hk:k < r.length):r.getD i 0 < h.length∧r.getD k 0 < h.length∧r.getD i 0≠r.getD k 0∧Hz w (MdM.sw h (r.getD i 0) (r.getD k 0)) < Hz w h:=by
 have hE:=Ov t.len t.ih t.iw t.ok.ev
 have hgr:=YB (N:=h.length) (H:=fn h) (W:=fn w) h.length (tb (bv h w)) (by unfold card;exact Nat.le_trans List.countP_le_length (by simp)) hE
 have hD:BI h.length (fn h) (fn w) (tb (bv h w)) (C8 h w):=hgr.1
 have hlen:(C8 h w).length=M h.length (fn h) (fn w) (tb (bv h w)):=hgr.2.1
 have hdm:=MdM.Dv_mem _ _ hD r hr
 have m1:=hdm.1
 have m2:=hdm.2.1
 have gi:r.getD i 0=r[i]:=by simp[List.getD_eq_getElem?_getD,show i < r.length by omega]
 have gk:r.getD k 0=r[k]:=by simp[List.getD_eq_getElem?_getD,hk]
 have hi':=m1 r[i] (List.getElem_mem _)
 have hk':=m1 r[k] (List.getElem_mem _)
 rw[←gi] at hi'
 rw[←gk] at hk'
 have hne:r.getD i 0≠r.getD k 0:=by
  rw[gi,gk];exact List.pairwise_iff_getElem.1 m2 i k (by omega) hk hik
 have hs:=XL hD hr hik hk
 refine⟨hi'.1,hk'.1,hne,?_⟩
 -- the right places stay right
 have hq:∀ j,j < h.length→(fn h j == fn w j)=true→Ke (fn h) (r.getD i 0) (r.getD k 0) j=fn w j:=fun j hj e=>by
  have e:=eq_of_beq e
  have hw1:=PQ t.len
  have n1:j≠r.getD i 0:=fun c=>by
   have:=hi'.2
   rw[hw1 _ hi'.1] at this
   unfold Ow at this
   rw[←c,e] at this;simp at this
  have n2:j≠r.getD k 0:=fun c=>by
   have:=hk'.2
   rw[hw1 _ hk'.1] at this
   unfold Ow at this
   rw[←c,e] at this;simp at this
  unfold Ke;rw[if_neg n1,if_neg n2];exact e
 have c1:=Qu (N:=h.length) (H:=Ke (fn h) (r.getD i 0) (r.getD k 0)) (W:=fn w) h.length (fun j=>fn h j == fn w j) hq al (by rw[Jv];exact Nat.le_refl _)
 have c2:=Qu (N:=h.length) (H:=fn h) (W:=fn w) h.length (fun j=>fn h j == fn w j) (fun j _ e=>eq_of_beq e) al (by rw[Jv];exact Nat.le_refl _)
 rw[Jv] at c1 c2
 have e:(fun j=>al j && !(fn h j == fn w j))=Ow h w:=rfl
 rw[e] at c1 c2
 rw[G5 (PQ t.len)] at hlen
 have hs2:(C8 h w).length+1≤M h.length (Ke (fn h) (r.getD i 0) (r.getD k 0)) (fn w) (Ow h w):=by rw[←G5 (PQ t.len)];exact hs
 have hm:=dV (N:=h.length) (H:=Ke (fn h) (r.getD i 0) (r.getD k 0)) (W:=fn w) (Ow h w)
 have f1:Hz w (MdM.sw h (r.getD i 0) (r.getD k 0))=h.length - M h.length (Ke (fn h) (r.getD i 0) (r.getD k 0)) (fn w) al:=by
  unfold Hz;rw[t.len,OZ hi'.1 hk'.1 hne];rfl
 have f2:Hz w h=h.length - M h.length (fn h) (fn w) al:=by unfold Hz;rw[t.len];rfl
 omega
theorem hb_iff {K:Nat} {h w:List Int} (t:IB K h w) {a b:Nat} (ha:a < h.length) (hb':b < h.length) (hab:a≠b):hb h w a b=decide (Hz w (MdM.sw h a b) < Hz w h):=by
 unfold hb
 have e1:=ZL t
 have e2:=ZL (t.sw ha hb' hab)
 have e3:CY (swp h a b) w=CY (MdM.sw h a b) w:=rfl
 rw[e3,e1,e2,JY]
 by_cases c:Hz w (MdM.sw h a b) < Hz w h
 ·rw[decide_eq_true c];exact decide_eq_true (Int.ofNat_lt.2 c)
 ·rw[decide_eq_false c];exact decide_eq_false fun k=>c (Int.ofNat_lt.1 k)
theorem Xa {h w:List Int} {a:Nat} {p:Nat×Nat}:∀ (f b:Nat),p∈OU h w a f b↔p.1=a∧b≤p.2∧p.2 < b+f∧hb h w a p.2=true
 | 0,b=>by unfold OU;simp;omega
 | f + 1, b => by
  unfold OU
  rw[List.mem_append,Xa f (b+1)]
  constructor
  ·rintro(h1 | ⟨h1,h2,h3,h4⟩)
   ·cases hc:hb h w a b with
    | true=>rw[hc,cond_true,List.mem_singleton] at h1;rw[h1];exact⟨rfl,Nat.le_refl _,by show b < b+(f+1);omega,hc⟩
    | false=>rw[hc,cond_false] at h1;cases h1
   ·exact⟨h1,by omega,by omega,h4⟩
  ·rintro⟨h1,h2,h3,h4⟩
   by_cases e:p.2=b
   ·rw[e] at h4
    rw[h4,cond_true]
    exact .inl (by rw[List.mem_singleton];exact Prod.ext h1 e)
   ·exact .inr ⟨h1,by omega,by omega,h4⟩
theorem LJ {h w:List Int} {p:Nat×Nat}:∀ (f a:Nat),a+f=h.length→(p∈Gp h w f a↔a≤p.1∧p.1 < p.2∧p.2 < h.length∧hb h w p.1 p.2=true)
 | 0,a,e=>by unfold Gp;simp;omega
 | f + 1, a, e => by
  unfold Gp
  rw[List.mem_append,Xa,LJ f (a+1) (by omega)]
  constructor
  ·rintro(⟨h1,h2,h3,h4⟩ | ⟨h1,h2,h3,h4⟩)
   ·exact⟨by omega,by omega,by omega,by rw[h1];exact h4⟩
   ·exact⟨by omega,h2,h3,h4⟩
  ·rintro⟨h1,h2,h3,h4⟩
   by_cases c:p.1=a
   ·rw[c] at h4;exact .inl ⟨c,by omega,by omega,h4⟩
   ·exact .inr ⟨by omega,h2,h3,h4⟩
theorem UX (h w:List Int):∀ (f a:Nat),(Gp h w f a).length≤f*h.length
 | 0,a=>by simp[Gp]
 | f + 1, a => by
  have h1:=O5 h w a (h.length - (a+1)) (a+1)
  have h2:=UX h w f (a+1)
  unfold Gp
  rw[List.length_append,Nat.succ_mul]
  omega
theorem q13 (n f1 f2:Nat) {K:Nat} {h w:List Int} (t:IB K h w):Eb (n+18) 13 [tr f1 f2 K h w]=some (.tuple ⟨[Sl.v 2 (ps (Gp h w h.length 0)),I 0]⟩):=by
 have e13:Eb (n+18) 13 [tr f1 f2 K h w]=bI (Eb (n+17)) 1000000 K (sl f1 h) (sl f2 w):=by kernel_rfl
 have ho:=t.ok
 have q1:=p29 n f1 f2 K h w ho t.chk
 have h10:=ho.n10
 have r1:=l13 (n+1) f1 f2 K h w ho 1000000 0 [] (by omega) (by omega) (by simp)
 rw[e13];unfold bI
 unfold tr S at q1
 rw[q1]
 simp only[Ac,FW,Dj,EG,BP,nt0,AA]
 exact r1
theorem Ad0 (pu:Af) (m f1 f2:Nat) (P:List (Nat×Nat)) (hl:P.length < 1000):∀ (f i:Nat),P.length - i < f→i≤P.length→KZ pu m f (Sl.mk P.length f1 (pq P)) (Sl.mk P.length f2 (pq P)) (Int.ofNat i)=some (.tuple ⟨[.bool true]⟩):=by
 intro f
 induction f with
 | zero=>intro i h;omega
 | succ f ih =>
  intro i h hi
  show KX pu m (KZ pu m f) _ _ _=_
  unfold KX
  by_cases hlt:i < P.length
  ·obtain⟨g1,g2⟩:=V8 P i hlt
   have hb:decide (i*2+2≤(pq P).length)=true:=by rw[OJ];simp;omega
   rw[FL hlt]
   have:bq false (an (Bd (Int.ofNat P[i].1) (Int.ofNat P[i].1)) (an (Bd (Int.ofNat P[i].2) (Int.ofNat P[i].2)) true))=false:=by rw[Qt,Qt];rfl
   simp only[Ak,Cx,Ac,blt_eq,hlt,decide_true,CF,Bool.true_and,ble_eq,AV,hb,BZ,g1,g2,BP]
   simp only[CF] at this
   rw[this,AA,DC i (by omega)]
   exact ih (i+1) (by omega) (by omega)
  ·rw[FD hlt];rfl
theorem Ad1 (n f1 f2:Nat) (P:List (Nat×Nat)) (hl:P.length < 1000):Eb (n+1) 10150 [Sl.v 2 (Sl.mk P.length f1 (pq P)),Sl.v 2 (Sl.mk P.length f2 (pq P))]=some (.tuple ⟨[.bool true]⟩):=by
 refine Eq.trans (b:=LM (Eb n) 1000000 (Sl.mk P.length f1 (pq P)) (Sl.mk P.length f2 (pq P))) (by kernel_rfl) ?_
 unfold LM
 have:nt (Bd (Int.ofNat P.length) (Int.ofNat P.length))=false:=by rw[Qt];rfl
 rw[this,AA]
 exact Ad0 (Eb n) 1000000 f1 f2 P hl 1000000 0 (by omega) (by omega)
theorem q25 (k:Nat) (args:List Value):Eb (k+1) 25 args=uZ (Eb k) L args:=by kernel_rfl
theorem Ad2 (pu:Af) (fl fl':Nat) (k:Int) (h w:List Int) (a b:Int):uZ pu L [tr fl fl' k h w,I a,I b]=bL pu L k (sl fl h) (sl fl' w) a b:=by kernel_rfl
theorem p25 (n:Nat) {K:Nat} {h w:List Int} (t:IB K h w) {a b:Nat} (hab:a < b) (hb':b < h.length):Eb (n+4) 25 [tr 0 0 K h w,I (Int.ofNat a),I (Int.ofNat b)]=some (.tuple ⟨[tr 0 0 K (MdM.sw h a b) w,I 0]⟩):=by
 rw[q25,Ad2]
 have h10:=t.n10
 have e1:=p47 (n+1) 0 0 K h w
 rw[t.chk] at e1
 have e2:=p57 (n+2) 0 0 K (Int.ofNat a) (Int.ofNat b) h w
 have ex:exg (Int.ofNat a) (Int.ofNat b) h.length=0:=by
  unfold exg
  rw[Hw ⟨Int.natCast_nonneg a,Int.ofNat_lt.2 (by omega),Int.natCast_nonneg b,Int.ofNat_lt.2 hb'⟩,Hw (show Int.ofNat a < Int.ofNat b from Int.ofNat_lt.2 hab)]
 rw[ex] at e2
 have e3:=p43 (n+2) 0 0 a b K h w (by omega) (by have:=t.len;omega) (by omega) hb'
 unfold tr S at e1 e2 e3
 unfold bL QJ
 have i0:Bd (0:Int) 0=true:=rfl
 rw[e1,Ac,BP,Ac,i0,Ak,e2,Ac,BP,Ac,nt0,AA,e3,Ac,RL,Ac,Dj,Dj,Dj,EG,BP,Ac,Dc,Ac,Dc,Ac]
 rfl
section
variable {K:Nat} {h w:List Int} (t:IB K h w) (h6:h.length≤6) (hK:K≤4) {L':List (List Int)} (hI:Bfs.Inv (VL false) (MU w) (Hz w) w L' L'.length) (hall:∀ x,MU w x→x∈L') (n:Nat)
include t hK hI hall
theorem inL {x:List Int} (hx:MU w x):UT x∧∃ j,GD (.int .i64 (Int.ofNat (Dr x 0))) (FK (KJ (Hz w) L')) 0=some (some (j,IV (Int.ofNat (Hz w x)))):=by
 have h8:=Wo (show K≤8 by omega) t.iw
 have hx8:=Iq h8 hx
 obtain⟨j,pl⟩:=OB (F:=Hz w) (n:=w.length) hx.1 hx8 L' (fun y hy=>⟨(hI.mem y hy).1,Iq h8 (hI.mem y hy)⟩) (hall x hx)
 have fk:=ML (Dr x 0) (KJ (Hz w) L')
 rw[pl] at fk
 exact⟨hx8,j,fk⟩
include h6
theorem Ad3 (ih0:Int→Nat→Nat→Int→Int→Int→Sl→Sl→List EO→Nat→List Value→Option Value) {a:Nat} (ha:a < h.length):∀ (f b:Nat) (P:List (Nat×Nat)),h.length - b < f→a < b→b≤h.length→P.length≤100+b →
 L6 (Eb (n + 4)) L ih0 f (Int.ofNat (Hz w h)) P.length (2 * P.length) (Int.ofNat a) (Int.ofNat b) (Int.ofNat h.length) (Int.ofNat a) K (sl 0 h) (sl 0 w) (FK (KJ (Hz w) L')) L'.length (pq P) =
  ih0 (Int.ofNat (Hz w h)) (P++OU h w a (h.length - b) b).length (2*(P++OU h w a (h.length - b) b).length) (Int.ofNat h.length) (Int.ofNat (a+1)) K (sl 0 h) (sl 0 w) (FK (KJ (Hz w) L')) L'.length (pq (P++OU h w a (h.length - b) b)):=by
 intro f
 induction f with
 | zero=>intro b P hi;omega
 | succ f ih =>
  intro b P hi hab hbl hP
  show Ud (Eb (n+4)) L ih0 (L6 (Eb (n+4)) L ih0 f) _ _ _ _ _ _ _ _ _ _ _ _ _=_
  unfold Ud
  rw[DL,MI,Ak,Ak,I4]
  by_cases hlt:b < h.length
  ·have ox:=OO t.ord ha hlt (show a≠b by omega)
   obtain⟨hx8,j,fk⟩:=inL t hK hI hall ox
   have e24:Eb (n+4) 24 [Sl.v 1 (sl 0 h),.int .i64 (Int.ofNat a),.int .i64 (Int.ofNat b)]=some (Sl.v 1 (sl 0 (MdM.sw h a b))):=p24 (n+3) 0 h h6 ha hlt
   have e23:Eb (n+4) 23 [Sl.v 1 (sl 0 (MdM.sw h a b))]=some (.int .i64 (Int.ofNat (Dr (MdM.sw h a b) 0))):=p23 (n+3) 0 _ hx8 (by rw[Gt];exact h6)
   have hs:=ZG t.ord ha hlt (show a≠b by omega)
   have hFb:Hz w h≤6:=by unfold Hz;have:=t.len;omega
   have w1:Aj .i64 (Int.sub (Int.ofNat (Hz w h)) 1)=Int.ofNat (Hz w h) - 1:=Oe _ (by show -9223372036854775808≤((Hz w h:Nat):Int) - 1;omega) (by show ((Hz w h:Nat):Int) - 1≤_;omega)
   have w2:Aj .i64 (Int.add (Int.ofNat (Hz w h)) 1)=Int.ofNat (Hz w h+1):=DC _ (by omega)
   have n1:AY (Int.ofNat (Hz w (MdM.sw h a b))) (Int.ofNat (Hz w h) - 1)=false:=by
    rw[bW];show ¬ ((Hz w (MdM.sw h a b):Nat):Int) < ((Hz w h:Nat):Int) - 1;omega
   have n2:AY (Int.ofNat (Hz w h+1)) (Int.ofNat (Hz w (MdM.sw h a b)))=false:=FD (by omega)
   have e25:Eb (n+4) 25 [.agg ⟨[.int .i64 (K:Int),Sl.v 1 (sl 0 h),Sl.v 1 (sl 0 w)]⟩,.int .i64 (Int.ofNat a),.int .i64 (Int.ofNat b)]=some (.tuple ⟨[.agg ⟨[.int .i64 (K:Int),Sl.v 1 (sl 0 (MdM.sw h a b)),Sl.v 1 (sl 0 w)]⟩,.int .i64 0]⟩):=p25 n t hab hlt
   have s1:Eb (n+4) 26 [Sl.v 1 (sl 0 (MdM.sw h a b)),Sl.v 1 (sl 0 (MdM.sw h a b))]=some (.bool true):=p26 (n+3) 0 0 _ (by rw[Gt];omega)
   have s2:Eb (n+4) 26 [Sl.v 1 (sl 0 w),Sl.v 1 (sl 0 w)]=some (.bool true):=p26 (n+3) 0 0 _ (by have:=t.len;omega)
   have hss:h.length - b=(h.length - (b+1))+1:=by omega
   -- what follows the list
   have fin:∀ Q:List (Nat×Nat),QA (Eb (n+4)) L ih0 (L6 (Eb (n+4)) L ih0 f) (Int.ofNat (Hz w h)) Q.length (2*Q.length) (Int.ofNat a) (Int.ofNat b) (sl 0 (MdM.sw h a b)) (Int.ofNat h.length) (Int.ofNat a) K (sl 0 h) (sl 0 w) (FK (KJ (Hz w) L')) L'.length (pq Q)=L6 (Eb (n+4)) L ih0 f (Int.ofNat (Hz w h)) Q.length (2*Q.length) (Int.ofNat a) (Int.ofNat (b+1)) (Int.ofNat h.length) (Int.ofNat a) K (sl 0 h) (sl 0 w) (FK (KJ (Hz w) L')) L'.length (pq Q):=fun Q=>by
    unfold QA Pf
    rw[e25,Ac,FW,Ac,Dj,Dj,EG,RL,Ac,Dj,Dj,Dj,EG,BP,Ac,Dc,Ac,Dc,Ac,BP,Ac,DL,MI,Ak,Ak,nt0,AA,s1,Ac,BU,Ac,show nt true=false from rfl,AA,s2,Ac,BU,Ac,show nt true=false from rfl,AA,show nt (Bd (K:Int) K)=false from by rw[Qt];rfl,AA,Ak,Ak,DC b (by omega)]
   rw[FL hlt,Ak,e24,Ac,Dc,Ac,e23,Ac,BP,Ac,fk,Ac,SQ,Ac,w1,n1,AA,w2,n2]
   unfold Ub
   rw[AA,DL,MI,Ak,Ak,hss]
   unfold OU
   rw[hb_iff t ha hlt (show a≠b by omega)]
   by_cases c:Hz w (MdM.sw h a b) < Hz w h
   ·have g1:=WP 2 16 P.length 1 (pq P) (SA (by omega) (by omega)) (by omega) (OJ P)
    have:=fin (P++[(a,b)])
    rw[List.length_append,List.length_singleton] at this
    rw[FL c,Ak,g1,Ak,Zx,MI,Ak,decide_eq_true c,cond_true]
    have ih2:=ih (b+1) (P++[(a,b)]) (by omega) (by omega) (by omega) (by simp;omega)
    rw[List.length_append,List.length_singleton] at ih2
    rw[←List.append_assoc,←ih2]
    exact this
   ·rw[FD c,AA,decide_eq_false c,cond_false,List.nil_append,fin P]
    exact ih (b+1) P (by omega) (by omega) (by omega) (by omega)
  ·have:b=h.length:=by omega
   subst this
   rw[FD hlt,AA]
   unfold Wz
   rw[DL,MI,Ak,Ak,DC a (by omega),Nat.sub_self]
   unfold OU
   rw[List.append_nil]
theorem Ad4:∀ (f a:Nat) (P:List (Nat×Nat)),h.length - a < f→a≤h.length→P.length≤10*a →
 I9 (Eb (n + 4)) L f (Int.ofNat (Hz w h)) P.length (2 * P.length) (Int.ofNat h.length) (Int.ofNat a) K (sl 0 h) (sl 0 w) (FK (KJ (Hz w) L')) L'.length (pq P) =
  Xc (Eb (n+4)) L (Int.ofNat (Hz w h)) (P++Gp h w (h.length - a) a).length (2*(P++Gp h w (h.length - a) a).length) K (sl 0 h) (sl 0 w) (pq (P++Gp h w (h.length - a) a)):=by
 intro f
 induction f with
 | zero=>intro a P hi;omega
 | succ f ih =>
  intro a P hi ha hP
  show Ue (Eb (n+4)) L (I9 (Eb (n+4)) L f) _ _ _ _ _ _ _ _ _ _ _=_
  unfold Ue
  rw[DL,MI,Ak,Ak]
  by_cases hlt:a < h.length
  ·rw[FL hlt,Ak,DC a (by omega)]
   rw[Ad3 t h6 hK hI hall n (I9 (Eb (n+4)) L f) hlt L (a+1) P (by show _ < 1000000;omega) (by omega) (by omega) (by omega)]
   have hl:=O5 h w a (h.length - (a+1)) (a+1)
   rw[ih (a+1) _ (by omega) (by omega) (by rw[List.length_append];omega),show h.length - a=h.length - (a+1)+1 by omega]
   conv=>rhs;unfold Gp
   rw[List.append_assoc]
  ·have:a=h.length:=by omega
   subst this
   rw[FD hlt,AA,Nat.sub_self]
   unfold Gp
   rw[List.append_nil]
end
end Go.MnOM
set_option maxRecDepth 100000
set_option maxHeartbeats 4000000
namespace Go.MnOM
open Go Go.Sp Go.MnO Go.MdM Go.RgP
section
variable (pu:Af) (ih0:Sl→Sl→Int→Int→Option Value)
theorem AcP (ih1:Sl→Sl→Sl→Int→Int→Sl→Int→Int→Option Value) (ih2:Sl→Sl→Int→Sl→Int→Int→Sl→Int→Int→Sl→Int→Int→Option Value) {P:List (Nat×Nat)} (hP:P.length < 1000) {a b lo hi:Nat} (hlo:bb (AY (Int.ofNat b) (Int.ofNat a)) (Int.ofNat b) (Int.ofNat a)=Int.ofNat lo) (hhi:bb (AY (Int.ofNat a) (Int.ofNat b)) (Int.ofNat b) (Int.ofNat a)=Int.ofNat hi) (s1 s2 s3 s4:Sl) (z1 z2 z3 z4 z5 z6:Int):∀ (d w i:Nat) (found:Bool),i+d=P.length→d < w→(found=true∨(lo,hi)∈P.drop i) →
 Qz pu L ih0 ih1 ih2 w (ps P) s1 (Int.ofNat a) (Int.ofNat b) found s2 z1 z2 s3 z3 z4 s4 z5 z6 (ps P) (Int.ofNat P.length) (Int.ofNat i)=Yi pu L ih0 ih1 ih2 (ps P) s1 (Int.ofNat a) s2 z1 z2 s3 z3 z4 s4 z5 z6
 | _,0,_,_,_,h,_=>by omega
 | 0, w + 1, i, found, hd, _, h => by
  have hf:found=true:=by
   rcases h with h | h
   ·exact h
   ·rw[List.drop_eq_nil_of_le (by omega)] at h;cases h
  show Pe pu L ih0 ih1 ih2 (Qz pu L ih0 ih1 ih2 w) _ _ _ _ _ _ _ _ _ _ _ _ _ _ _ _ _=_
  unfold Pe
  rw[FD (by omega),AA,hf]
  unfold ZT
  rw[show nt true=false from rfl,AA]
 | d + 1, w + 1, i, found, hd, hw, h => by
  have hlt:i < P.length:=by omega
  obtain⟨g1,g2⟩:=V8 P i hlt
  have hbb:Nat.ble (i*2+2) (len (pq P))=true:=by rw[ble_eq,AV,OJ];simp;omega
  have e:P.drop i=P[i]::P.drop (i+1):=List.drop_eq_getElem_cons hlt
  have ih:=fun f h=>AcP ih1 ih2 hP hlo hhi s1 s2 s3 s4 z1 z2 z3 z4 z5 z6 d w (i+1) f (by omega) (by omega) h
  have hn:(ps P).n=P.length:=rfl
  have hcs:(ps P).cs=pq P:=rfl
  show Pe pu L ih0 ih1 ih2 (Qz pu L ih0 ih1 ih2 w) _ _ _ _ _ _ _ _ _ _ _ _ _ _ _ _ _=_
  unfold Pe
  rw[FL hlt,hlo,hhi]
  simp only[Ak,Cx,Ac,hn,hcs,dQ hlt,hbb,BZ,g1,g2,BP,DC i (by omega:i < 1000000)]
  cases hf:found with
  | true=>rw[Ak];exact ih true (.inl rfl)
  | false =>
   rw[AA]
   by_cases c:P[i]=(lo,hi)
   ·have k:bq true (an (Bd (Int.ofNat P[i].1) (Int.ofNat lo)) (an (Bd (Int.ofNat P[i].2) (Int.ofNat hi)) true))=true:=by rw[c,Qt,Qt];rfl
    rw[k];exact ih true (.inl rfl)
   ·refine ih _ (.inr ?_)
    rcases h with h | h
    ·rw[hf] at h;cases h
    ·rw[e] at h
     rcases List.mem_cons.1 h with h | h
     ·exact absurd h.symm c
     ·exact h
end
section
variable {K:Nat} {h w:List Int} (t:IB K h w) (pu:Af)
theorem AcQ {r:List Nat} {k:Nat} (hk:k < r.length):AL (Sl.cs (sl 0 (nI r))) (k*1)=some (I (Int.ofNat (r.getD k 0))):=by
 rw[BZ,Nat.mul_one];simp[sl,nI,hk]
theorem Ad5 (r:List Nat) {i:Nat} (hi:i≤r.length):(Sl.mk (i - 0) (bb (an (Nat.beq i (Sl.n (sl 0 (nI r)))) (Dp false (Nat.beq (Sl.fl (sl 0 (nI r))) 1))) 1 0) (Aq ((i - 0)*1) (Am (0*1) (Sl.cs (sl 0 (nI r))))))=sl 0 (nI (r.take i)):=by
 have e1:bb (an (Nat.beq i (Sl.n (sl 0 (nI r)))) (Dp false (Nat.beq (Sl.fl (sl 0 (nI r))) 1))) 1 0=0:=by
  have:Dp false (Nat.beq (Sl.fl (sl 0 (nI r))) 1)=false:=rfl
  rw[this,CF,Bool.and_false];rfl
 have e2:Aq ((i - 0)*1) (Am (0*1) (Sl.cs (sl 0 (nI r))))=(nI (r.take i)).map I:=by
  rw[Cg,Bz,Nat.zero_mul,List.drop_zero,Nat.sub_zero,Nat.mul_one]
  simp[sl,nI,List.map_take]
 rw[e1,e2]
 unfold sl
 rw[Gy,List.length_take,Nat.min_eq_left hi];rfl
include t
theorem hit {r:List Nat} (hr:r∈C8 h w) {i k:Nat} (hki:k < i) (hi:i < r.length):∃ lo hi',bb (AY (Int.ofNat (r.getD k 0)) (Int.ofNat (r.getD i 0))) (Int.ofNat (r.getD k 0)) (Int.ofNat (r.getD i 0))=Int.ofNat lo∧bb (AY (Int.ofNat (r.getD i 0)) (Int.ofNat (r.getD k 0))) (Int.ofNat (r.getD k 0)) (Int.ofNat (r.getD i 0))=Int.ofNat hi'∧(lo,hi')∈Gp h w h.length 0:=by
 obtain⟨a1,a2,a3,a4⟩:=Wp t hr hki hi
 generalize r.getD k 0=x at *
 generalize r.getD i 0=y at *
 rcases Nat.lt_or_gt_of_ne a3 with c | c
 ·refine⟨x,y,by rw[FL c,Ak],by rw[FD (by omega),AA],(LJ h.length 0 (by omega)).2 ⟨Nat.zero_le _,c,a2,?_⟩⟩
  rw[hb_iff t a1 a2 a3];exact decide_eq_true a4
 ·refine⟨y,x,by rw[FD (by omega),AA],by rw[FL c,Ak],(LJ h.length 0 (by omega)).2 ⟨Nat.zero_le _,c,a1,?_⟩⟩
  rw[hb_iff t a2 a1 (fun e=>a3 e.symm),←WX a1 a2 a3];exact decide_eq_true a4
theorem TW:(Gp h w h.length 0).length < 1000:=by
 have h1:=UX h w h.length 0
 have h10:=t.n10
 have:h.length*h.length≤10*10:=Nat.mul_le_mul h10 h10
 omega
theorem l57 (ih0:Sl→Sl→Int→Int→Option Value) (ih1:Sl→Sl→Sl→Int→Int→Sl→Int→Int→Option Value) {r:List Nat} (hr:r∈C8 h w) {i:Nat} (hi:i < r.length) (h11:r.length≤100) (s2:Sl) (z1 z2:Int):∀ (d w' k:Nat),k+d=i→d < w' →
 O0 pu L ih0 ih1 w' (ps (Gp h w h.length 0)) (sl 0 (nI r)) (Int.ofNat (r.getD i 0)) s2 z1 z2 (sl 0 (nI r)) (Int.ofNat r.length) (Int.ofNat i) (sl 0 (nI (r.take i))) (Int.ofNat i) (Int.ofNat k)=Yh pu L ih0 ih1 (ps (Gp h w h.length 0)) (sl 0 (nI r)) s2 z1 z2 (sl 0 (nI r)) (Int.ofNat r.length) (Int.ofNat i)
 | _,0,_,_,h=>by omega
 | 0, w' + 1, k, hd, _ => by
  show VV pu L ih0 ih1 (O0 pu L ih0 ih1 w') _ _ _ _ _ _ _ _ _ _ _ _=_
  unfold VV
  rw[FD (by omega),AA]
 | d + 1, w' + 1, k, hd, hw => by
  have hki:k < i:=by omega
  have hlen:(r.take i).length=i:=by rw[List.length_take];omega
  have hk:k < (r.take i).length:=by omega
  have hg:(r.take i).getD k 0=r.getD k 0:=by simp[List.getD_eq_getElem?_getD,List.getElem?_take,hki]
  obtain⟨lo,hi',b1,b2,b3⟩:=hit t hr hki hi
  have e:=AcP pu ih0 ih1 (O0 pu L ih0 ih1 w') (TW t) b1 b2 (sl 0 (nI r)) s2 (sl 0 (nI r)) (sl 0 (nI (r.take i))) z1 z2 (Int.ofNat r.length) (Int.ofNat i) (Int.ofNat i) (Int.ofNat k) (Gp h w h.length 0).length L 0 false (by omega) (by have:=TW t;show _ < 1000000;omega) (.inr (by rw[List.drop_zero];exact b3))
  have hn:Sl.n (sl 0 (nI (r.take i)))=i:=by show (nI (r.take i)).length=i;rw[Gy,hlen]
  show VV pu L ih0 ih1 (O0 pu L ih0 ih1 w') _ _ _ _ _ _ _ _ _ _ _ _=_
  unfold VV
  rw[FL hki,Ak,Cx,Ac,hn,dQ hki,Ak,AcQ hk,hg,Ac,BP,Ac]
  refine Eq.trans e ?_
  unfold Yi
  rw[DC k (by omega)]
  exact l57 ih0 ih1 hr hi h11 s2 z1 z2 d w' (k+1) (by omega) (by omega)
theorem l55 (ih0:Sl→Sl→Int→Int→Option Value) {r:List Nat} (hr:r∈C8 h w) (h11:r.length≤100) (s2:Sl) (z1 z2:Int):∀ (d w' i:Nat),i+d=r.length→d < w' →
 Jw pu L ih0 w' (ps (Gp h w h.length 0)) (sl 0 (nI r)) s2 z1 z2 (sl 0 (nI r)) (Int.ofNat r.length) (Int.ofNat i)=Yg pu L ih0 (ps (Gp h w h.length 0)) s2 z1 z2
 | _,0,_,_,h=>by omega
 | 0, w' + 1, i, hd, _ => by
  show VW pu L ih0 (Jw pu L ih0 w') _ _ _ _ _ _ _ _=_
  unfold VW
  rw[FD (by omega),AA]
 | d + 1, w' + 1, i, hd, hw => by
  have hi:i < r.length:=by omega
  have hn:Sl.n (sl 0 (nI r))=r.length:=by show (nI r).length=_;rw[Gy]
  have hble:Nat.ble i r.length=true:=Nat.ble_eq_true_of_le (by omega)
  have hfl:nt (Nat.beq (Sl.fl (sl 0 (nI r))) 2)=true:=rfl
  have hn2:Sl.n (sl 0 (nI (r.take i)))=i:=by show (nI (r.take i)).length=i;rw[Gy,List.length_take];omega
  show VW pu L ih0 (Jw pu L ih0 w') _ _ _ _ _ _ _ _=_
  unfold VW
  rw[FL hi,Ak,Cx,Ac,Ad5 r (by omega),hn,dQ hi,Ak,AcQ hi,Ac,BP,Ac,hfl,Ak,hble,Ak,hn2]
  refine Eq.trans (l57 t pu ih0 (Jw pu L ih0 w') hr hi h11 s2 z1 z2 i L 0 (by omega) (by show _ < 1000000;omega)) ?_
  unfold Yh
  rw[DC i (by omega)]
  exact l55 ih0 hr h11 s2 z1 z2 d w' (i+1) (by omega) (by omega)
theorem l53 (h12:pu 12 []=some (.bool true)) (hl:(C8 h w).length≤100) (hr11:∀ r∈C8 h w,r.length≤100):∀ (d w' i:Nat),i+d=(C8 h w).length→d < w' →
 Gq pu L w' (ps (Gp h w h.length 0)) (LL 0 (C8 h w)) (Int.ofNat (C8 h w).length) (Int.ofNat i)=some (.bool true)
 | _,0,_,_,h=>by omega
 | 0, w' + 1, i, hd, _ => by
  show VY pu L (Gq pu L w') _ _ _ _=_
  unfold VY
  rw[FD (by omega),AA]
  unfold Yf
  rw[h12];rfl
 | d + 1, w' + 1, i, hd, hw => by
  have hi:i < (C8 h w).length:=by omega
  have hg:AL (Sl.cs (LL 0 (C8 h w))) (i*1)=some (rv (C8 h w)[i]):=by
   rw[BZ,Nat.mul_one];simp[LL,hi]
  have hn:Sl.n (LL 0 (C8 h w))=(C8 h w).length:=rfl
  have hm:(C8 h w)[i]∈C8 h w:=List.getElem_mem hi
  have hn2:Sl.n (sl 0 (nI (C8 h w)[i]))=(C8 h w)[i].length:=by show (nI (C8 h w)[i]).length=_;rw[Gy]
  show VY pu L (Gq pu L w') _ _ _ _=_
  unfold VY
  rw[FL hi,Ak,Cx,Ac,hn,dQ hi,Ak,hg,Ac,show Bj 1 (rv (C8 h w)[i])=some (sl 0 (nI (C8 h w)[i])) from rfl,Ac,hn2]
  refine Eq.trans (l55 t pu (Gq pu L w') hm (hr11 _ hm) (LL 0 (C8 h w)) (Int.ofNat (C8 h w).length) (Int.ofNat i) (C8 h w)[i].length L 0 (by omega) (by have:=hr11 _ hm;show _ < 1000000;omega)) ?_
  unfold Yg
  rw[DC i (by omega)]
  exact l53 h12 hl hr11 d w' (i+1) (by omega) (by omega)
end
theorem ZM {K:Nat} {h w:List Int} (t:IB K h w):(C8 h w).length≤100∧∀ r∈C8 h w,r.length≤100:=by
 have hE:=Ov t.len t.ih t.iw t.ok.ev
 have hgr:=YB (N:=h.length) (H:=fn h) (W:=fn w) h.length (tb (bv h w)) (by unfold card;exact Nat.le_trans List.countP_le_length (by simp)) hE
 have hD:BI h.length (fn h) (fn w) (tb (bv h w)) (C8 h w):=hgr.1
 have hlen:(C8 h w).length=M h.length (fn h) (fn w) (tb (bv h w)):=hgr.2.1
 have h10:=t.n10
 constructor
 ·rw[hlen]
  have h1:=dV (N:=h.length) (H:=fn h) (W:=fn w) (tb (bv h w))
  have h2:card h.length (tb (bv h w))≤h.length:=by unfold card;exact Nat.le_trans List.countP_le_length (by simp)
  omega
 ·intro r hr
  have hdm:=MdM.Dv_mem _ _ hD r hr
  have:=ZH r (List.range h.length) hdm.2.1 fun y hy=>List.mem_range.2 (hdm.1 y hy).1
  rw[List.length_range] at this
  omega
theorem q5 (k:Nat) (args:List Value):Eb (k+1) 5 args=m5 (Eb k) L args:=by kernel_rfl
theorem p12 (n:Nat):Eb (n+1) 12 []=some (.bool true):=by kernel_rfl
theorem eG (n:Nat) (q:List Value) (x:Nat→Int) (hl:len q=22) (hq:∀ i,i < 22→AL q i=some (.int .u8 (x i))) (hc:Au Ah q=true) (hx:∀ i,0≤x i∧x i < 256) (h2:Au closed2 [.agg ⟨q⟩,.int .i64 6,.int .i64 4]=true) (ht:Aq 22 (Am 0 q)=q) :
 Eb (n+32) 5 [.agg ⟨q⟩]=some (.bool true):=by
 obtain⟨K,h,w,e1,t0,h6,hK⟩:=dR (n+30) q x hl hq hc hx
 have hlw:=t0.len
 have ord:=t0.ord
 have h8:=Wo (show K≤8 by omega) t0.iw
 have h8h:=Wo (show K≤8 by omega) t0.ih
 have hw6:w.length≤6:=by omega
 have W:Bfs.World (VL false) (MU w) (Hz w) w:=by
  have e:VL false=nbx:=funext AcN
  rw[e];exact uM w
 have hFb:∀ y,MU w y→Hz w y≤1000:=fun y _=>by unfold Hz;omega
 obtain⟨L',hI,e2⟩:=uU h8 hw6 false (n+29) W hFb
 have hall:∀ y,MU w y→y∈L':=fun y hy=>Bfs.inv_end W hI _ y rfl hy
 obtain⟨_,j,fk⟩:=inL t0 hK hI hall ord
 have e6:Eb (n+31) 23 [Sl.v 1 (sl 0 h)]=some (.int .i64 (Int.ofNat (Dr h 0))):=p23 (n+30) 0 h h8h h6
 have e7:=Ad4 t0 h6 hK hI hall (n+27) L 0 [] (by show _ < 1000000;omega) (by omega) (by simp)
 rw[List.nil_append,Nat.sub_zero] at e7
 have e8:=q13 (n+13) 0 0 t0
 have e9:=p16 (n+1) 0 0 t0
 have hP:=TW t0
 have e10:=Ad1 (n+30) 0 0 (Gp h w h.length 0) hP
 obtain⟨g1,g2⟩:=ZM t0
 have e11:=l53 t0 (Eb (n+31)) (p12 (n+30)) g1 g2 (C8 h w).length L 0 (by omega) (by show _ < 1000000;omega)
 unfold tr S at e1 e8 e9
 unfold S at e2
 rw[q5]
 have e0:m5 (Eb (n+31)) L [.agg ⟨q⟩]=m5_ (Eb (n+31)) L q:=by
  show bb (an (Nat.beq (len q) 22) (Au Ah q)) (m5_ (Eb (n+31)) L q) none=_
  rw[hl,hc];rfl
 rw[e0]
 have hb':Nat.ble (0+22) (len q)=true:=by rw[hl];rfl
 have hvm:Fj (Ef (.map (FK (KJ (Hz w) L')) L'.length))=some ⟨FK (KJ (Hz w) L'),L'.length⟩:=CX _ _
 have him:FC (.map (some 1)) 1=true:=rfl
 have h3:Au closed2 [.agg ⟨q⟩,I 6,I 4]=true:=h2
 have hn3:Sl.n (sl 0 h)=h.length:=rfl
 unfold m5_
 rw[hc,Ak,hb',Ak,ht,e1,Ac,RL,Ac,Dj,Dj,Dj,EG,BP,Ac,Dc,Ac,Dc,Ac,h3,Ak,e2,Ac,FW,Ac,Dj,Dj,EG,him,Ak,hvm,Ac]
 rw[DL,Ak,Ak,e6,Ac,BP,Ac,fk,Ac,SQ,Ac,hn3]
 refine Eq.trans e7 ?_
 have hem:(Bd (Int.ofNat (Gp h w h.length 0).length) 0)=Bd (Int.ofNat (Hz w h)) 0:=by
  rw[Lr,Lr]
  by_cases e:h=w
  ·have f0:Hz w h=0:=by rw[e];exact UO w
   have hnil:Gp h w h.length 0=[]:=by
    apply List.eq_nil_iff_forall_not_mem.2
    intro p hp
    obtain⟨_,k2,k3,k4⟩:=(LJ h.length 0 (by omega)).1 hp
    rw[hb_iff t0 (by omega) k3 (by omega),f0] at k4
    simp at k4
   rw[f0,hnil];rfl
  ·obtain⟨a,b,k1,k2,k3⟩:=UQ ord e
   have hm:(a,b)∈Gp h w h.length 0:=(LJ h.length 0 (by omega)).2 ⟨Nat.zero_le _,k1,k2,by
    show hb h w a b=true
    rw[hb_iff t0 (by omega) k2 (by omega)];exact decide_eq_true (by omega)⟩
   have hpos:=List.length_pos_of_mem hm
   have d1:¬ Int.ofNat (Gp h w h.length 0).length=0:=fun k=>by have:(((Gp h w h.length 0).length:Nat):Int)=0:=k;omega
   have d2:¬ Int.ofNat (Hz w h)=0:=fun k=>by have:((Hz w h:Nat):Int)=0:=k;omega
   rw[beq_eq_false_iff_ne.2 d1,beq_eq_false_iff_ne.2 d2]
 have hbq:∀ b:Bool,bq false (bq b b)=false:=fun b=>by cases b <;> rfl
 have hps:(Sl.mk (Gp h w h.length 0).length 0 (Aq ((Gp h w h.length 0).length*2) (Am 0 (pq (Gp h w h.length 0)))))=ps (Gp h w h.length 0):=by rw[iH];rfl
 have e10':Eb (n+31) 10150 [Sl.v 2 (ps (Gp h w h.length 0)),Sl.v 2 (ps (Gp h w h.length 0))]=some (.tuple ⟨[.bool true]⟩):=e10
 have hpn:Sl.n (ps (Gp h w h.length 0))=(Gp h w h.length 0).length:=rfl
 have hgn:Sl.n (LL 0 (C8 h w))=(C8 h w).length:=rfl
 unfold Xc
 rw[e8,Ac,FW,Ac,Dj,Dj,EG,show Bj 2 (Sl.v 2 (ps (Gp h w h.length 0)))=some (ps (Gp h w h.length 0)) from rfl,Ac,BP,Ac,MI,Ak,e9,Ac,FW,Ac,Dj,Dj,EG,Dc,Ac,BP,Ac,nt0,AA,AA,Zy,Ak,hps,e10',Ac,FW,Ac,Dj,EG,BU,Ac,show nt true=false from rfl,AA,hpn,hem,hbq]
 unfold VZ
 rw[AA,hgn]
 exact e11
theorem XM (l:List Int) (h22:l.length=22) (hl:∀ z∈l,0≤z∧z < 256):Eb 32 5 [.agg ⟨l.map (Value.int .u8)⟩]=some (.bool true):=by
 have hc:Au Ah (l.map (Value.int .u8))=true:=by
  rw[Bh,List.all_eq_true]
  intro v hv
  obtain⟨z,_,rfl⟩:=List.mem_map.1 hv
  rfl
 refine eG 0 (l.map (Value.int .u8)) (fun i=>l.getD i 0) (by rw[AV,List.length_map,h22]) (fun i hi=>?_) hc (AdX hl) ?_ ?_
 ·rw[BZ,List.getElem?_map,List.getElem?_eq_getElem (by omega)]
  simp[List.getD_eq_getElem?_getD,show i < l.length from by omega]
 ·show Au closed2 _=true
  match l,h22 with
  | [a0,a1,a2,a3,a4,a5,a6,a7,a8,a9,b0,b1,b2,b3,b4,b5,b6,b7,b8,b9,c0,c1],_=>rfl
 ·rw[Cg,Bz,List.drop_zero,List.take_of_length_le (by simp[h22])]
end Go.MnOM
