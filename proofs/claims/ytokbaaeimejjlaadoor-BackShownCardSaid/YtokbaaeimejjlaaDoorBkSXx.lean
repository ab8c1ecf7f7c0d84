/- Made from wip. -/
import Derived.Test.YtokbaaeimejjlaaDoorBkSH2x

set_option maxRecDepth 100000
set_option maxHeartbeats 4000000
namespace Go.BkQ
open Go Go.Sp Go.BkSM Go.BkH
theorem UC (n:Nat):AO n 0=[]:=by unfold AO;simp
theorem dU (l:List Nat) (k:Nat):(⟨(KY 1 (slN (ints l))).n+1,0,Aq (((KY 1 (slN (ints l))).n+1)*1) (Am 0 (Br (KY 1 (slN (ints l))).cs [I (.ofNat k)]))⟩:Sl)=slN (ints (l++[k]))∧an (Nat.ble (0+((KY 1 (slN (ints l))).n+1)*1) (len (Br (KY 1 (slN (ints l))).cs ([I (.ofNat k)]:List Value)))) (Au Ah (Aq (((KY 1 (slN (ints l))).n+1)*1) (Am 0 (Br (KY 1 (slN (ints l))).cs ([I (.ofNat k)]:List Value)))))=true:=by
 obtain⟨h1,h2,_⟩:=Ww (ints l)
 have hl:(ints l).length=l.length:=by simp[ints]
 have e1:Br ((ints l).map I) [I (.ofNat k)]=(ints (l++[k])).map I:=by rw[BH];simp[ints]
 have e2:Aq ((l.length+1)*1) (Am 0 ((ints (l++[k])).map I))=(ints (l++[k])).map I:=by
  rw[Cg,Bz,List.drop_zero,Nat.mul_one,List.take_of_length_le (by simp[ints])]
 rw[h1,h2,hl,e1,e2]
 constructor
 ·have e3:(ints (l++[k])).length=l.length+1:=by simp[ints]
  have e4:Po (ints (l++[k]))=0:=by
   cases h:ints (l++[k]) with
   | nil=>rw[h] at e3;simp at e3
   | cons a m=>rfl
  unfold slN
  rw[e3,e4]
 ·have e5:Nat.ble (0+(l.length+1)*1) (len ((ints (l++[k])).map I))=true:=Nat.ble_eq_true_of_le (by rw[AV];simp[ints])
  rw[e5,Bh]
  show (((ints (l++[k])).map I).all Ah)=true
  rw[List.all_eq_true]
  intro v hv
  obtain⟨z,_,rfl⟩:=List.mem_map.1 hv
  rfl
section
variable {r c k f g:Nat} {us:List Nat} {x:List Int}
def gX (r c k f g:Nat) (us:List Nat) (x:List Int) (N d:Nat):Prop:=∀ (i:Nat) (l:List Nat) (st:Option (List Int)),i+d=us.length→l.length≤i→(∀ k∈l,k < 16) →
 Bp N 10400 (QO r c k f g us x l i st)=some (I9 r c k f g us x (Ir Iz (r*c) ((C8 r c x us).drop i) l st))
theorem Pp (N M:Nat) {d i:Nat} (hg:(r,c,us)∈BB) (hS:gX r c k f g us x (N+1) d) (hi:i+1+d=us.length) (l:List Nat) (hl:l.length≤i) (hl16:∀ k∈l,k < 16):∀ (w e:Nat) (st:Option (List Int)),e < 2 ^ (r*c)→(AO (r*c) e).length < w →
 Jd (Bp (N+1)) M w (slN (ints l)) (.ofNat i) (.ofNat e) 0 (Gy r c k f us) (sl g x) (Ke st) (Jg st)=some (I9 r c k f g us x ((AO (r*c) e).foldl (fun st b=>Ir Iz (r*c) ((C8 r c x us).drop (i+1)) (l++[b]) st) st))
 | 0,_,_,_,h=>by omega
 | w + 1, e, st, he, hw => by
  have hp:=Co hg
  have hrc:r*c≤16:=Nat.mul_le_mul hp.r4 hp.c4
  have h8:us.length≤8:=hp.len8
  have he16:e < 65536:=Nat.lt_of_lt_of_le he (Nat.pow_le_pow_right (n:=2) (by omega) hrc)
  show Jc (Bp (N+1)) M (Jd (Bp (N+1)) M w) (slN (ints l)) (.ofNat i) (.ofNat e) 0 (Gy r c k f us) (sl g x) (Ke st) (Jg st)=_
  by_cases h0:e=0
  ·subst h0
   rw[UC];rfl
  ·obtain⟨m,b,rfl⟩:=ZA h0
   have hb:b < r*c:=(Nat.pow_lt_pow_iff_right (a:=2) (by omega)).1 (by omega:2 ^ b < 2 ^ (r*c))
   have hbits:=ZC (m:=m) hb
   rw[hbits] at hw ⊢
   have hz:Bd (Int.ofNat (2 ^ (b+1)*m+2 ^ b)) 0=false:=by
    rw[show (0:Int) = .ofNat 0 from rfl,Eb]
    exact Bool.eq_false_iff.2 fun h=>h0 (Nat.eq_of_beq_eq_true h)
   obtain⟨a1,a2⟩:=dU l b
   obtain⟨c1,c2,c3⟩:=Ww (ints l)
   have hroom:EQ ((KY 1 (slN (ints l))).n+1) 8=true:=by
    rw[c1,show (ints l).length=l.length from by simp[ints]]
    have:l.length≤8:=by omega
    generalize l.length=q at this
    have:q=0∨q=1∨q=2∨q=3∨q=4∨q=5∨q=6∨q=7∨q=8:=by omega
    rcases this with rfl | rfl | rfl | rfl | rfl | rfl | rfl | rfl | rfl <;> rfl
   have hcall:=hS (i+1) (l++[b]) st (by omega) (by simp;omega) (fun a ha=>by
    rcases List.mem_append.1 ha with ha | ha
    ·exact hl16 a ha
    ·rw[List.mem_singleton.1 ha];omega)
   have ih:=Pp N M hg hS hi l hl hl16 w (2 ^ (b+1)*m) (Ir Iz (r*c) ((C8 r c x us).drop (i+1)) (l++[b]) st) (Nat.lt_of_le_of_lt (Nat.le_add_right _ _) he) (by rw[List.length_cons] at hw;omega)
   rw[List.foldl_cons,←ih]
   unfold QO objs at hcall
   unfold Jc
   rw[hz,show nt false=true from rfl,Ak,uV,Ac,Dc,Ac,ZE N he16,Ac,BP,Ac,c3,hroom,show an true true=true from rfl,Ak,a2,Ak,a1,DC i (by omega)]
   refine Eq.trans (congrArg (fun q=>oo q none _) hcall) ?_
   rw[dR he16]
   rfl
theorem LJ (hg:(r,c,us)∈BB) (hx:x.length=r*c):∀ (d N i w:Nat) (l:List Nat) (st:Option (List Int)),d+4≤N→i+d=us.length→d < w→l.length≤i→(∀ k∈l,k < 16) →
 FL (Bp N) L w (slN (ints l)) (.ofNat i) 0 (Gy r c k f us) (sl g x) (Ke st) (Jg st)=some (I9 r c k f g us x (Ir Iz (r*c) ((C8 r c x us).drop i) l st))
 | _,_,_,0,_,_,_,_,h,_,_=>by omega
 | 0, N, i, w + 1, l, st, hN, hi, _, hl, hl16 => by
  obtain⟨N,rfl⟩:∃ N',N=N'+4:=⟨N - 4,by omega⟩
  have h8:us.length≤8:=(Co hg).len8
  have hii:i=us.length:=by omega
  subst hii
  show Gu (Bp (N+4)) L (FL (Bp (N+4)) L w) (slN (ints l)) (.ofNat us.length) 0 (Gy r c k f us) (sl g x) (Ke st) (Jg st)=_
  unfold Gu
  rw[SK,Ac,Dc,Ac,show AY (Int.ofNat us.length) (Int.ofNat (Sl.n (⟨len us,f,Gt us⟩:Sl)))=false from by rw[Dr];exact decide_eq_false (by show ¬ us.length < len us;rw[AV];omega),AA,uX N L hg l (by omega) st]
  rw[show (C8 r c x us).drop us.length=[] from List.drop_eq_nil_of_le (by unfold C8;simp)]
  rfl
 | d + 1, N, i, w + 1, l, st, hN, hi, hw, hl, hl16 => by
  obtain⟨N,rfl⟩:∃ N',N=N'+1:=⟨N - 1,by omega⟩
  have hp:=Co hg
  have hrc:r*c≤16:=Nat.mul_le_mul hp.r4 hp.c4
  have h8:us.length≤8:=hp.len8
  have hiu:i < us.length:=by omega
  have hS:gX r c k f g us x (N+1) d:=fun i l st h1 h2 h3=>by
   rw[QC,ZF]
   exact LJ hg hx d N i L l st (by omega) h1 (by show _ < 1000000;omega) h2 h3
  have ih:=LJ hg hx d (N+1) (i+1) w l st (by omega) (by omega) (by omega) (by omega) hl16
  have hch:Bp (N+1) 36 [Cv 0 (Gy r c k f us),Sl.v 1 (sl g x),I (.ofNat i)]=some (.int .u16 (.ofNat (Kg x (cellL r c us[i])))):=L6 N g f hg (List.getElem?_eq_getElem hiu) hx
  have hcin:=uW (x:=x) hg hiu
  have hc16:Kg x (cellL r c us[i]) < 65536:=Nat.lt_of_lt_of_le hcin (Nat.pow_le_pow_right (n:=2) (by omega) hrc)
  rw[ZG hiu]
  generalize Kg x (cellL r c us[i])=e at *
  show Gu (Bp (N+1)) L (FL (Bp (N+1)) L w) (slN (ints l)) (.ofNat i) 0 (Gy r c k f us) (sl g x) (Ke st) (Jg st)=_
  unfold Gu Ir
  rw[SK,Ac,Dc,Ac,show AY (Int.ofNat i) (Int.ofNat (Sl.n (⟨len us,f,Gt us⟩:Sl)))=true from by rw[Dr];exact decide_eq_true (by show i < len us;rw[AV];omega),Ak,hch,Ac,show Bi .u16 (.int .u16 (.ofNat e))=some (.ofNat e) from rfl,Ac,show (0:Int) = .ofNat 0 from rfl,Eb]
  have skip:HY (Bp (N+1)) L (FL (Bp (N+1)) L w) (slN (ints l)) (.ofNat i) false 0 (Gy r c k f us) (sl g x) (Ke st) (Jg st)=some (I9 r c k f g us x (Ir Iz (r*c) ((C8 r c x us).drop (i+1)) l st)):=by
   unfold HY
   rw[AA,DC i (by omega)]
   exact ih
  by_cases h0:e=0
  ·rw[if_pos (.inl h0),h0]
   exact skip
  ·rw[show Nat.beq e 0=false from Bool.eq_false_iff.2 fun h=>h0 (Nat.eq_of_beq_eq_true h),show nt false=true from rfl,Ak]
   obtain⟨N',rfl⟩:∃ N',N=N'+2:=⟨N - 2,by omega⟩
   rw[uU N' hc16 l hl16 (by omega)]
   cases hh:Iq e l with
   | true=>rw[if_pos (.inr rfl)];exact skip
   | false =>
    rw[if_neg (fun h=>by rcases h with h | h;exact h0 h;cases h)]
    show FK (Bp (N'+2+1)) L (slN (ints l)) (.ofNat i) 0 (Gy r c k f us) (sl g x) (Ke st) (Jg st)=_
    have hln:(slN (ints l)).n=l.length:=by show (ints l).length=_;simp[ints]
    have hbl := Pp (k := k) (f := f) (g := g) (N' + 2) L hg hS (by omega) l hl hl16 L e st hcin (by
     have:(AO (r*c) e).length≤r*c:=by unfold AO;exact Nat.le_trans (List.length_filter_le _ _) (by simp)
     show _ < 1000000;omega)
    unfold FK
    rw[SK,Ac,Dc,Ac,show Bd (Int.ofNat i) (Int.ofNat (Sl.n (⟨len us,f,Gt us⟩:Sl)))=false from by rw[Eb];exact Bool.eq_false_iff.2 fun h=>by have:=Nat.eq_of_beq_eq_true h;rw[show (Sl.n (⟨len us,f,Gt us⟩:Sl))=len us from rfl,AV] at this;omega,AA,hln]
    cases st with
    | none =>
     rw[show Bd (Int.ofNat l.length) (Ke none)=false from by rw[show Ke none = .ofNat 64 from rfl,Eb];exact Bool.eq_false_iff.2 fun h=>by have:=Nat.eq_of_beq_eq_true h;omega,AA,hch,Ac,if_neg (fun h=>by obtain⟨b,hb,_⟩:=h;cases hb)]
     exact hbl
    | some b =>
     rw[show Ke (some b) = .ofNat b.length from rfl,Eb]
     by_cases hf:l.length=b.length
     ·rw[if_pos ⟨b,rfl,hf⟩,show Nat.beq l.length b.length=true from by rw[hf];simp,Ak];rfl
     ·rw[if_neg (fun h=>by obtain⟨q,hq,hh⟩:=h;injection hq with hq;rw[hq] at hf;exact hf hh),show Nat.beq l.length b.length=false from Bool.eq_false_iff.2 fun h=>hf (Nat.eq_of_beq_eq_true h),AA,hch,Ac]
      exact hbl
theorem AeJ (hg:(r,c,us)∈BB) (hx:x.length=r*c) (n:Nat):Bp (n+13) 10400 (QO r c k f g us x [] 0 none)=some (I9 r c k f g us x (Ir Iz (r*c) (C8 r c x us) [] none)):=by
 have h8:us.length≤8:=(Co hg).len8
 rw[QC,ZF]
 have:=LJ (k:=k) (f:=f) (g:=g) hg hx us.length (n+12) 0 L [] none (by omega) (by omega) (by show _ < 1000000;omega) (by simp) (by simp)
 rw[List.drop_zero] at this
 exact this
end
end Go.BkQ
set_option maxRecDepth 100000
set_option maxHeartbeats 4000000
namespace Go.BkQ
open Go Go.Sp Go.BkSM Go.BkH
theorem uY:nt (Bd (0:Int) 0)=false:=rfl
theorem Wx:Zv Iz:=⟨Wp,fun h1 h2=>Pn h1 h2,fun h1 h2 h3=>Wq h1 h2 h3⟩
theorem dV (n f g:Nat) {r c k:Nat} {us:List Nat} {x:List Int} (hg:(r,c,us)∈BB) (hk:k=1∨k=2∨k=3∨k=4) (hR:I8 r c k x):∃ H,O7 Iz (r*c) (C8 r c x us) H∧Bp (n+14) 20 [Hy r c k f us,S g x]=some (.tuple ⟨[Sl.v 1 (slN (ints H)),I 0]⟩):=by
 obtain⟨H,h1,h2⟩:=WT Wx (n:=r*c) (C:=C8 r c x us) (fun e he=>by
  unfold C8 at he
  obtain⟨t,ht,rfl⟩:=List.mem_map.1 he
  have:=QN x (cellL r c t)
  rwa [((Co hg).row t ht).2.1] at this)
 refine⟨H,h2,?_⟩
 have h3:=KW (n+6) f g hg hk hR
 have h4:=AeJ (k:=k) (f:=f) (g:=g) hg hR.1 n
 rw[h1] at h4
 have h3':Bp (n+13) 32 [.agg ⟨[I (.ofNat r),I (.ofNat c),I (.ofNat k),Sl.v 1 ⟨len us,f,Gt us⟩]⟩,(Sl.v 1 (Sl.mk 1 0 (Aq (1*1) (Am 0 ([(Sl.v 1 (sl g x))]:List Value)))))]=some (.tuple ⟨[Cv 0 (Gy r c k f us),I 0]⟩):=h3
 rw[q20]
 show bQ (Bp (n+13)) L (.ofNat r) (.ofNat c) (.ofNat k) ⟨len us,f,Gt us⟩ (sl g x)=_
 unfold bQ
 simp only[h3',Ac,FW,Dj,EG,Zu,NA,Ak,BP,uY,AA]
 refine Eq.trans (congrArg (fun q=>oo q none _) h4) ?_
 rfl
end Go.BkQ
set_option maxRecDepth 100000
set_option maxHeartbeats 4000000
namespace Go.BkQ
open Go Go.Sp Go.BkSM
theorem ZH:∀ {a b:List Nat},eqL a b=true→a=b
 | [],[],_=>rfl
 | [],_::_,h=>by cases h
 | _::_,[],h=>by cases h
 | x :: a, y :: b, h => by
  obtain⟨h1,h2⟩:=Av (show an (Nat.beq x y) (eqL a b)=true from h)
  rw[Nat.eq_of_beq_eq_true h1,ZH h2]
def four:List Nat:=[1,2,3,4]
def SQ:List (Nat×Nat×Nat):=four.flatMap fun r=>four.flatMap fun c=>four.map fun k=>(r,c,k)
noncomputable def QR (x:Nat→Int) (k:Nat) (l:List Nat):List Value:=AP (fun i=>I (Int.tmod (Aj .i64 (x i)) (.ofNat k))) l
theorem WV (pu : Af) (y0 y1 y2 y3 : Int) (x : Nat → Int) (s : Sl) : AP (fun p : Nat × Nat × Nat => Sa pu L L 0 0 (Aj .i64 (Int.mul (.ofNat p.1) (.ofNat p.2.1))) 0 [.int .u8 y0, .int .u8 y1, .int .u8 y2, .int .u8 y3, .int .u8 (x 0), .int .u8 (x 1), .int .u8 (x 2), .int .u8 (x 3), .int .u8 (x 4), .int .u8 (x 5), .int .u8 (x 6), .int .u8 (x 7), .int .u8 (x 8), .int .u8 (x 9), .int .u8 (x 10), .int .u8 (x 11), .int .u8 (x 12), .int .u8 (x 13), .int .u8 (x 14), .int .u8 (x 15)] 0 0 0 (.ofNat p.1) (.ofNat p.2.1) (.ofNat p.2.2) s []) SQ
 = AP (fun p:Nat×Nat×Nat=>some (.tuple ⟨[.agg ⟨[I (.ofNat p.1),I (.ofNat p.2.1),I (.ofNat p.2.2),Sl.v 1 s]⟩,Sl.v 1 ⟨p.1*p.2.1,0,QR x p.2.2 (upN (p.1*p.2.1))⟩]⟩)) SQ:=by kernel_rfl
def AdI:List (List Nat):=[[0],[0,2],[0,4],[0,5],[0,2,4,5],[0,1,2,3],[0,6],[0,7],[0,2,6,7],[0,1,2,3,4,5,6,7]]
noncomputable def WW:List Value:=AP (fun us=>Sl.v 1 ⟨len us,0,Gt us⟩) AdI
noncomputable def Wy (g:Nat):List Nat:=oo (AL AdI g) [] fun us=>us
theorem ZI:AP (fun g=>AL WW (0+g*1)) (upN 10)=AP (fun g=>some (Sl.v 1 ⟨len (Wy g),0,Gt (Wy g)⟩)) (upN 10):=by kernel_rfl
noncomputable def ZJ:Bool:=Au (fun r=>Au (fun c=>Au (fun g=>uO r c (Wy g)) (upN (bb (Nat.beq r c) 10 5))) four) four
theorem Pq:ZJ=true:=by kernel_rfl
theorem Ps {r c:Nat} {us:List Nat} (h:uO r c us=true):(r,c,us)∈BB:=by
 unfold uO at h
 revert h
 generalize BB=g
 intro h
 induction g with
 | nil=>cases h
 | cons p l ih =>
  rcases UH (show Dp (an (Nat.beq p.1 r) (an (Nat.beq p.2.1 c) (eqL p.2.2 us))) (List.rec (motive:=fun _=>Bool) false (fun p _ ih=>Dp (an (Nat.beq p.1 r) (an (Nat.beq p.2.1 c) (eqL p.2.2 us))) ih) l)=true from h) with h | h
  ·obtain⟨h1,h⟩:=Av h
   obtain⟨h2,h3⟩:=Av h
   obtain⟨p1,p2,p3⟩:=p
   rw[show p1=r from Nat.eq_of_beq_eq_true h1,show p2=c from Nat.eq_of_beq_eq_true h2,show p3=us from ZH h3]
   exact List.mem_cons_self
  ·exact List.mem_cons_of_mem _ (ih h)
noncomputable def a4 (y:Int):Int:=Aj .i64 (Int.add 1 (Int.tmod (Aj .i64 y) 4))
noncomputable def a3 (y:Int):Int:=Aj .i64 (Int.add 1 (Int.tmod (Aj .i64 y) 3))
theorem WX (n:Nat) (y0 y1 y2 y3:Int) (x:Nat→Int):Bp (n+1) 9 [.agg ⟨[.int .u8 y0,.int .u8 y1,.int .u8 y2,.int .u8 y3,.int .u8 (x 0),.int .u8 (x 1),.int .u8 (x 2),.int .u8 (x 3),.int .u8 (x 4),.int .u8 (x 5),.int .u8 (x 6),.int .u8 (x 7),.int .u8 (x 8),.int .u8 (x 9),.int .u8 (x 10),.int .u8 (x 11),.int .u8 (x 12),.int .u8 (x 13),.int .u8 (x 14),.int .u8 (x 15)]⟩,I 3,I 3]=bb (Bd (a3 y0) (a3 y1)) (OZ (Bp n) L 10 21 10 [.int .u8 y0,.int .u8 y1,.int .u8 y2,.int .u8 y3,.int .u8 (x 0),.int .u8 (x 1),.int .u8 (x 2),.int .u8 (x 3),.int .u8 (x 4),.int .u8 (x 5),.int .u8 (x 6),.int .u8 (x 7),.int .u8 (x 8),.int .u8 (x 9),.int .u8 (x 10),.int .u8 (x 11),.int .u8 (x 12),.int .u8 (x 13),.int .u8 (x 14),.int .u8 (x 15)] 0 0 0 (a3 y0) (a3 y1) (a3 y2) WW) (OZ (Bp n) L 10 21 5 [.int .u8 y0,.int .u8 y1,.int .u8 y2,.int .u8 y3,.int .u8 (x 0),.int .u8 (x 1),.int .u8 (x 2),.int .u8 (x 3),.int .u8 (x 4),.int .u8 (x 5),.int .u8 (x 6),.int .u8 (x 7),.int .u8 (x 8),.int .u8 (x 9),.int .u8 (x 10),.int .u8 (x 11),.int .u8 (x 12),.int .u8 (x 13),.int .u8 (x 14),.int .u8 (x 15)] 0 0 0 (a3 y0) (a3 y1) (a3 y2) WW):=by kernel_rfl
theorem dX (pu:Af) (y0 y1 y2 y3 R C K lim:Int) (x:Nat→Int) {G:Nat} {us:List Nat} (h1:nt (Bd lim 0)=true) (h2:Int.tmod (Aj .i64 y3) lim = .ofNat G) (h3:G < 10) (h4:AL WW (0+G*1)=some (Sl.v 1 ⟨len us,0,Gt us⟩)) :
 OZ pu L 10 21 lim [.int .u8 y0,.int .u8 y1,.int .u8 y2,.int .u8 y3,.int .u8 (x 0),.int .u8 (x 1),.int .u8 (x 2),.int .u8 (x 3),.int .u8 (x 4),.int .u8 (x 5),.int .u8 (x 6),.int .u8 (x 7),.int .u8 (x 8),.int .u8 (x 9),.int .u8 (x 10),.int .u8 (x 11),.int .u8 (x 12),.int .u8 (x 13),.int .u8 (x 14),.int .u8 (x 15)] 0 0 0 R C K WW=Sa pu L L 0 0 (Aj .i64 (Int.mul R C)) 0 [.int .u8 y0,.int .u8 y1,.int .u8 y2,.int .u8 y3,.int .u8 (x 0),.int .u8 (x 1),.int .u8 (x 2),.int .u8 (x 3),.int .u8 (x 4),.int .u8 (x 5),.int .u8 (x 6),.int .u8 (x 7),.int .u8 (x 8),.int .u8 (x 9),.int .u8 (x 10),.int .u8 (x 11),.int .u8 (x 12),.int .u8 (x 13),.int .u8 (x 14),.int .u8 (x 15)] 0 0 0 R C K ⟨len us,0,Gt us⟩ []:=by
 have e3:AL ([.int .u8 y0,.int .u8 y1,.int .u8 y2,.int .u8 y3,.int .u8 (x 0),.int .u8 (x 1),.int .u8 (x 2),.int .u8 (x 3),.int .u8 (x 4),.int .u8 (x 5),.int .u8 (x 6),.int .u8 (x 7),.int .u8 (x 8),.int .u8 (x 9),.int .u8 (x 10),.int .u8 (x 11),.int .u8 (x 12),.int .u8 (x 13),.int .u8 (x 14),.int .u8 (x 15)]:List Value) 3=some (.int .u8 y3):=rfl
 have ec:Au Ah ([.int .u8 y0,.int .u8 y1,.int .u8 y2,.int .u8 y3,.int .u8 (x 0),.int .u8 (x 1),.int .u8 (x 2),.int .u8 (x 3),.int .u8 (x 4),.int .u8 (x 5),.int .u8 (x 6),.int .u8 (x 7),.int .u8 (x 8),.int .u8 (x 9),.int .u8 (x 10),.int .u8 (x 11),.int .u8 (x 12),.int .u8 (x 13),.int .u8 (x 14),.int .u8 (x 15)]:List Value)=true:=rfl
 unfold OZ
 simp only[e3,ec,show Bi .u8 (.int .u8 y3)=some y3 from rfl,h1,Ak,h2,Cx,Ac,FM h3,h4,Dc]
theorem WY {y:Int} (h:0≤y∧y < 256):Aj .i64 y=y:=by
 obtain⟨m,rfl⟩:=Int.eq_ofNat_of_zero_le h.1
 exact Oe _ (by omega) (by omega)
theorem OP {y:Int} (h:0≤y∧y < 256) {m:Nat} (hm:0 < m):∃ A,A < m∧Int.tmod (Aj .i64 y) (.ofNat m) = .ofNat A:=by
 rw[WY h]
 obtain⟨a,rfl⟩:=Int.eq_ofNat_of_zero_le h.1
 exact⟨a % m,Nat.mod_lt _ hm,rfl⟩
theorem ZK {y:Int} (h:0≤y∧y < 256):∃ A,(A=1∨A=2∨A=3)∧a3 y = .ofNat A:=by
 obtain⟨A,hA,e⟩:=OP h (m:=3) (by omega)
 refine⟨A+1,by omega,?_⟩
 unfold a3
 rw[show (3:Int) = .ofNat 3 from rfl,e]
 obtain rfl | rfl | rfl:A=0∨A=1∨A=2:=by omega
 all_goals rfl
theorem WZ {r c k:Nat} (hr:r∈four) (hc:c∈four) (hk:k∈four):(r,c,k)∈SQ:=by
 unfold SQ
 exact List.mem_flatMap.2 ⟨r,hr,List.mem_flatMap.2 ⟨c,hc,List.mem_map.2 ⟨k,hk,rfl⟩⟩⟩
theorem uZ {k:Nat} (h:k∈four):k=1∨k=2∨k=3∨k=4:=by simpa [four] using h
theorem dY (n:Nat) (y0 y1 y2 y3:Int) (x:Nat→Int) (h0:0≤y0∧y0 < 256) (h1:0≤y1∧y1 < 256) (h2:0≤y2∧y2 < 256) (h3:0≤y3∧y3 < 256) (hx:∀ i,0≤x i∧x i < 256) :
 ∃ r c k us X,Bp (n+1) 9 [.agg ⟨[.int .u8 y0,.int .u8 y1,.int .u8 y2,.int .u8 y3,.int .u8 (x 0),.int .u8 (x 1),.int .u8 (x 2),.int .u8 (x 3),.int .u8 (x 4),.int .u8 (x 5),.int .u8 (x 6),.int .u8 (x 7),.int .u8 (x 8),.int .u8 (x 9),.int .u8 (x 10),.int .u8 (x 11),.int .u8 (x 12),.int .u8 (x 13),.int .u8 (x 14),.int .u8 (x 15)]⟩,I 3,I 3]=some (.tuple ⟨[Hy r c k 0 us,S 0 X]⟩)∧(r,c,us)∈BB∧(r,c,[0])∈BB∧(k=1∨k=2∨k=3)∧I8 r c k X:=by
 obtain⟨r,hr3,er⟩:=ZK h0
 have hr:r∈four:=by rcases hr3 with rfl | rfl | rfl <;> simp[four]
 obtain⟨c,hc3,ec⟩:=ZK h1
 have hc:c∈four:=by rcases hc3 with rfl | rfl | rfl <;> simp[four]
 obtain⟨k,hk3,ek⟩:=ZK h2
 have hk:k∈four:=by rcases hk3 with rfl | rfl | rfl <;> simp[four]
 have hg0:(r,c,[0])∈BB:=by
  have h:=Pq
  unfold ZJ at h
  rw[Bh,List.all_eq_true] at h
  have h:=h r hr
  rw[Bh,List.all_eq_true] at h
  have h:=h c hc
  rw[Bh,List.all_eq_true] at h
  exact Ps (h 0 (by rw[Kc,List.mem_range];cases Nat.beq r c <;> decide))
 have key:∀ (lim:Nat),0 < lim→lim≤10→lim=bb (Nat.beq r c) 10 5→∃ us,(r,c,us)∈BB∧OZ (Bp n) L 10 21 (.ofNat lim) [.int .u8 y0,.int .u8 y1,.int .u8 y2,.int .u8 y3,.int .u8 (x 0),.int .u8 (x 1),.int .u8 (x 2),.int .u8 (x 3),.int .u8 (x 4),.int .u8 (x 5),.int .u8 (x 6),.int .u8 (x 7),.int .u8 (x 8),.int .u8 (x 9),.int .u8 (x 10),.int .u8 (x 11),.int .u8 (x 12),.int .u8 (x 13),.int .u8 (x 14),.int .u8 (x 15)] 0 0 0 (.ofNat r) (.ofNat c) (.ofNat k) WW=Sa (Bp n) L L 0 0 (Aj .i64 (Int.mul (.ofNat r) (.ofNat c))) 0 [.int .u8 y0,.int .u8 y1,.int .u8 y2,.int .u8 y3,.int .u8 (x 0),.int .u8 (x 1),.int .u8 (x 2),.int .u8 (x 3),.int .u8 (x 4),.int .u8 (x 5),.int .u8 (x 6),.int .u8 (x 7),.int .u8 (x 8),.int .u8 (x 9),.int .u8 (x 10),.int .u8 (x 11),.int .u8 (x 12),.int .u8 (x 13),.int .u8 (x 14),.int .u8 (x 15)] 0 0 0 (.ofNat r) (.ofNat c) (.ofNat k) ⟨len us,0,Gt us⟩ []:=by
  intro lim hl hl2 hlim
  obtain⟨G,hG,eG⟩:=OP h3 hl
  refine⟨Wy G,?_,?_⟩
  ·have h:=Pq
   unfold ZJ at h
   rw[Bh,List.all_eq_true] at h
   have h:=h r hr
   rw[Bh,List.all_eq_true] at h
   have h:=h c hc
   rw[Bh,List.all_eq_true] at h
   exact Ps (h G (by rw[Kc,List.mem_range,←hlim];exact hG))
  ·refine dX (Bp n) y0 y1 y2 y3 _ _ _ (.ofNat lim) x (G:=G) ?_ eG (by omega) (Je ZI G (by rw[Kc,List.mem_range];omega))
   rw[DL,decide_eq_false (by show ¬ Int.ofNat lim=Int.ofNat 0;exact fun e=>by have:=Int.ofNat.inj e;omega)];rfl
 have run:=fun us:List Nat=>Je (WV (Bp n) y0 y1 y2 y3 x ⟨len us,0,Gt us⟩) (r,c,k) (WZ hr hc hk)
 have fin:∀ us:List Nat,(r,c,us)∈BB→∃ r' c' k' us' X,some (Value.tuple ⟨[.agg ⟨[I (.ofNat r),I (.ofNat c),I (.ofNat k),Sl.v 1 ⟨len us,0,Gt us⟩]⟩,Sl.v 1 ⟨r*c,0,QR x k (upN (r*c))⟩]⟩)=some (.tuple ⟨[Hy r' c' k' 0 us',S 0 X]⟩)∧(r',c',us')∈BB∧(r',c',[0])∈BB∧(k'=1∨k'=2∨k'=3)∧I8 r' c' k' X:=by
  intro us hg
  refine⟨r,c,k,us,(List.range (r*c)).map fun i=>Int.tmod (Aj .i64 (x i)) (.ofNat k),?_,hg,hg0,hk3,?_,?_⟩
  ·unfold QR
   rw[Cc,Kc]
   show some (Value.tuple ⟨[_,Sl.v 1 ⟨r*c,0,_⟩]⟩)=some (Value.tuple ⟨[_,Sl.v 1 ⟨((List.range (r*c)).map fun i=>Int.tmod (Aj .i64 (x i)) (.ofNat k)).length,0,((List.range (r*c)).map fun i=>Int.tmod (Aj .i64 (x i)) (.ofNat k)).map I⟩]⟩)
   rw[List.length_map,List.length_range,List.map_map];rfl
  ·simp
  ·intro z hz
   obtain⟨i,_,rfl⟩:=List.mem_map.1 hz
   obtain⟨A,hA,e⟩:=OP (hx i) (m:=k) (by have:=uZ hk;omega)
   rw[e]
   exact⟨Int.natCast_nonneg A,Int.ofNat_lt.2 hA⟩
 rw[WX,er,ec,ek,DL]
 by_cases e:r=c
 ·subst e
  rw[decide_eq_true rfl,Ak]
  obtain⟨us,hg,e1⟩:=key 10 (by omega) (by omega) (by rw[show Nat.beq r r=true from by simp];rfl)
  rw[show (10:Int) = .ofNat 10 from rfl,e1]
  have h:=run us
  rw[show Sa (Bp n) L L 0 0 (Aj .i64 (Int.mul (.ofNat r) (.ofNat r))) 0 [.int .u8 y0,.int .u8 y1,.int .u8 y2,.int .u8 y3,.int .u8 (x 0),.int .u8 (x 1),.int .u8 (x 2),.int .u8 (x 3),.int .u8 (x 4),.int .u8 (x 5),.int .u8 (x 6),.int .u8 (x 7),.int .u8 (x 8),.int .u8 (x 9),.int .u8 (x 10),.int .u8 (x 11),.int .u8 (x 12),.int .u8 (x 13),.int .u8 (x 14),.int .u8 (x 15)] 0 0 0 (.ofNat r) (.ofNat r) (.ofNat k) ⟨len us,0,Gt us⟩ []=_ from h]
  exact fin us hg
 ·rw[decide_eq_false fun h=>e (Int.ofNat.inj h),AA]
  obtain⟨us,hg,e1⟩:=key 5 (by omega) (by omega) (by rw[show Nat.beq r c=false from by cases h:Nat.beq r c with | false=>rfl | true=>exact absurd (Nat.eq_of_beq_eq_true h) e];rfl)
  rw[show (5:Int) = .ofNat 5 from rfl,e1]
  have h:=run us
  rw[show Sa (Bp n) L L 0 0 (Aj .i64 (Int.mul (.ofNat r) (.ofNat c))) 0 [.int .u8 y0,.int .u8 y1,.int .u8 y2,.int .u8 y3,.int .u8 (x 0),.int .u8 (x 1),.int .u8 (x 2),.int .u8 (x 3),.int .u8 (x 4),.int .u8 (x 5),.int .u8 (x 6),.int .u8 (x 7),.int .u8 (x 8),.int .u8 (x 9),.int .u8 (x 10),.int .u8 (x 11),.int .u8 (x 12),.int .u8 (x 13),.int .u8 (x 14),.int .u8 (x 15)] 0 0 0 (.ofNat r) (.ofNat c) (.ofNat k) ⟨len us,0,Gt us⟩ []=_ from h]
  exact fin us hg
end Go.BkQ
set_option maxRecDepth 100000
set_option maxHeartbeats 4000000
namespace Go.BkQ
open Go Go.Sp Go.BkSM
noncomputable def Jh (x:Nat→Int) (l:List Nat):List Value:=AP (fun i=>I (x i)) l
theorem TV (n f:Nat) (x:Nat→Int):AP (fun p:Nat×Nat×Nat=>Bp (n+2) 10 [Sl.v 1 ⟨p.1*p.2.1,f,Jh x (upN (p.1*p.2.1))⟩,I (.ofNat p.1),I (.ofNat p.2.1),I (.ofNat p.2.2)]) triples=AP (fun p:Nat×Nat×Nat=>some (Sl.v 1 ⟨p.1*p.2.1,0,Jh x (cellL p.1 p.2.1 p.2.2)⟩)) triples:=by kernel_rfl
theorem ZL:Au (fun p:Nat×Nat×List Nat=>Au (fun t=>bM triples p.1 p.2.1 t) p.2.2) BB=true:=by kernel_rfl
theorem ZM {r c t:Nat} {us:List Nat} (hg:(r,c,us)∈BB) (ht:t∈us):(r,c,t)∈triples:=by
 have h:=ZL
 rw[Bh,List.all_eq_true] at h
 have h:=h _ hg
 rw[Bh,List.all_eq_true] at h
 exact RP (h t ht)
theorem UD {x:List Int} {n:Nat} (hx:x.length=n):Jh (fun i=>x.getD i 0) (upN n)=x.map I:=by
 subst hx
 unfold Jh
 rw[Cc,Kc]
 apply List.ext_getElem
 ·simp
 ·intro i h1 h2
  have hi:i < x.length:=by simpa using h2
  simp[List.getD_eq_getElem?_getD,hi]
theorem UE (n f:Nat) {r c t:Nat} {us:List Nat} {x:List Int} (hg:(r,c,us)∈BB) (ht:t∈us) (hx:x.length=r*c):Bp (n+2) 10 [S f x,I (.ofNat r),I (.ofNat c),I (.ofNat t)]=some (S 0 (pick x (cellL r c t))):=by
 have h:=Je (TV n f fun i=>x.getD i 0) (r,c,t) (ZM hg ht)
 have h:Bp (n+2) 10 [Sl.v 1 ⟨r*c,f,Jh (fun i=>x.getD i 0) (upN (r*c))⟩,I (.ofNat r),I (.ofNat c),I (.ofNat t)]=some (Sl.v 1 ⟨r*c,0,Jh (fun i=>x.getD i 0) (cellL r c t)⟩):=h
 rw[UD hx] at h
 have e:Jh (fun i=>x.getD i 0) (cellL r c t)=(pick x (cellL r c t)).map I:=by
  unfold Jh pick
  rw[Cc,List.map_map];rfl
 rw[e] at h
 have hl:(pick x (cellL r c t)).length=r*c:=by rw[SC,((Co hg).row t ht).2.1]
 show Bp (n+2) 10 [Sl.v 1 ⟨x.length,f,x.map I⟩,I (.ofNat r),I (.ofNat c),I (.ofNat t)]=some (Sl.v 1 ⟨(pick x (cellL r c t)).length,0,(pick x (cellL r c t)).map I⟩)
 rw[hx,hl]
 exact h
end Go.BkQ
set_option maxRecDepth 100000
set_option maxHeartbeats 4000000
namespace Go.BkQ
open Go Go.Sp Go.BkSM
theorem AeK (k:Nat) (args:List Value):Bp (k+1) 13 args=m13 (Bp k) L args:=by kernel_rfl
theorem Pt (pu:Af) (M:Nat) {a b:List Int} (hab:a.length=b.length) (ha:a.length < 900000) (f1 f2:Nat):∀ (d w i:Nat),i+d=a.length→d < w →
 Pb pu M w (sl f1 a) (sl f2 b) (.ofNat a.length) (.ofNat i)=some (.bool (Iz (a.drop i) (b.drop i)))
 | _,0,_,_,h=>by omega
 | 0, w + 1, i, hd, _ => by
  show Ow pu M (Pb pu M w) (sl f1 a) (sl f2 b) (.ofNat a.length) (.ofNat i)=_
  unfold Ow
  simp only[Fp (show ¬ i < a.length from by omega),AA,List.drop_eq_nil_of_le (show a.length≤i by omega)]
  rfl
 | d + 1, w + 1, i, hd, hw => by
  have h1:i < a.length:=by omega
  have h2:i < b.length:=by omega
  show Ow pu M (Pb pu M w) (sl f1 a) (sl f2 b) (.ofNat a.length) (.ofNat i)=_
  unfold Ow
  simp only[I4,GX,FY h1,Ak,Cx,Ac,FM h1,FM h2,LY h1,LY h2,BP,DL,DC i (by omega),Pt pu M hab ha f1 f2 d w (i+1) (by omega) (by omega),List.drop_eq_getElem_cons h1,List.drop_eq_getElem_cons h2,Iz,G9]
  by_cases h:a[i]=b[i] <;> simp[h]
theorem dZ (n f1 f2:Nat) {a b:List Int} (hab:a.length=b.length) (ha:a.length < 900000):Bp (n+1) 13 [S f1 a,S f2 b]=some (.bool (Iz a b)):=by
 rw[AeK]
 exact Pt (Bp n) L hab ha f1 f2 a.length L 0 (by omega) (by show _ < 1000000;omega)
end Go.BkQ
namespace Go.BkQ
open Go Go.Sp Go.BkSM Go.BkH
theorem ZN {a b:Nat} (ha:a < 65536) (hb:b < 65536):Nl .i64 a b=true:=by unfold Nl;simp[GA];omega
theorem gY {a b:Nat} (ha:a < 65536) (hb:b < 65536):Np .i64 (.ofNat a) (.ofNat b) = .ofNat (a &&& b):=by
 show bb (Nl .i64 a b) (Int.ofNat (Nat.land a b)) (PR .i64 (.ofNat a) (.ofNat b)) = .ofNat (a &&& b)
 rw[ZN ha hb];rfl
theorem ZO {k:Nat} (hk:k≤16):QW .i64 (1:Int) k = .ofNat (2 ^ k):=by
 have:k=0∨k=1∨k=2∨k=3∨k=4∨k=5∨k=6∨k=7∨k=8∨k=9∨k=10∨k=11∨k=12∨k=13∨k=14∨k=15∨k=16:=by omega
 rcases this with rfl | rfl | rfl | rfl | rfl | rfl | rfl | rfl | rfl | rfl | rfl | rfl | rfl | rfl | rfl | rfl | rfl <;> rfl
theorem AeL {z k:Nat} (hk:k < 16) (hz:z < 65536):jF .i64 (.ofNat z) (QW .i64 (1:Int) k) = .ofNat (z ||| 2 ^ k):=by
 rw[ZO (by omega)]
 show bb (Nl .i64 z (2 ^ k)) (Int.ofNat (Nat.lor z (2 ^ k))) (YD .i64 (.ofNat z) (.ofNat (2 ^ k))) = .ofNat (z ||| 2 ^ k)
 rw[ZN hz (SI hk)];rfl
theorem AdJ {c k:Nat} (hc:c < 65536) (hk:k < 16):Bd (Np .i64 (G6 .i64 (.ofNat c) k) (1:Int)) (1:Int)=c.testBit k:=by
 have e1:G6 .i64 (.ofNat c) k = .ofNat (c / 2 ^ k):=by
  show Int.ofNat (Nat.div c (Nat.pow 2 (Nat.min k 64)))=_
  rw[show Nat.min k 64=k from Nat.min_eq_left (by omega)];rfl
 rw[e1,show (1:Int) = .ofNat 1 from rfl,gY (Nat.lt_of_le_of_lt (Nat.div_le_self _ _) hc) (by omega),Eb,Nat.testBit_eq_decide_div_mod_eq,Nat.and_one_is_mod]
 by_cases h:c / 2 ^ k % 2=1
 ·rw[h];rfl
 ·rw[decide_eq_false h]
  have:c / 2 ^ k % 2=0:=by omega
  rw[this];rfl
end Go.BkQ
namespace Go.BkH
theorem QS {c s n:Nat} (hc:c < 2 ^ n):c &&& s=0↔Iq c (AO n s)=false:=by
 constructor
 ·intro h
  cases hh:Iq c (AO n s) with
  | false=>rfl
  | true =>
   obtain⟨k,hk,hb⟩:=DT.1 hh
   unfold AO at hk
   have h2:=(List.mem_filter.1 hk).2
   have:(c &&& s).testBit k=true:=by rw[Nat.testBit_and,hb,h2];rfl
   rw[h,Nat.zero_testBit] at this;cases this
 ·intro h
  apply Nat.eq_of_testBit_eq
  intro j
  rw[Nat.zero_testBit,Nat.testBit_and]
  cases h1:c.testBit j with
  | false=>rfl
  | true =>
   cases h2:s.testBit j with
   | false=>rfl
   | true =>
    exfalso
    have hj:j < n:=by
     apply Classical.byContradiction
     intro hn
     have:=Nat.testBit_lt_two_pow (x:=c) (i:=j) (Nat.lt_of_lt_of_le hc (Nat.pow_le_pow_right (by omega) (by omega)))
     rw[this] at h1;cases h1
    have:Iq c (AO n s)=true:=DT.2 ⟨j,by unfold AO;simp[hj,h2],h1⟩
    rw[h] at this;cases this
def TW (C:List Nat) (s:Nat):Bool:=C.all fun c=>c == 0 || !(c &&& s == 0)
theorem Wz {C:List Nat} {n s:Nat} (hC:∀ c∈C,c < 2 ^ n):TW C s=true↔bL C (AO n s):=by
 unfold TW bL
 rw[List.all_eq_true]
 refine forall_congr' fun c=>forall_congr' fun hc=>?_
 rw[Bool.or_eq_true,beq_iff_eq,Bool.not_eq_true']
 refine or_congr Iff.rfl ?_
 rw[beq_eq_false_iff_ne,Ne,QS (hC c hc)]
 cases Iq c (AO n s) <;> simp
theorem UF (C:List Nat) (s:Nat):TW (C.filter fun c=>c != 0) s=TW C s:=by
 unfold TW
 induction C with
 | nil=>rfl
 | cons c C ih =>
  rw[List.filter_cons]
  by_cases h:c=0
  ·subst h;simpa using ih
  ·rw[if_pos (by simpa using h),List.all_cons,List.all_cons,ih]
theorem Jw (n s:Nat):(AO n s).Pairwise (· < ·):=List.pairwise_lt_range.filter _
theorem PI {n s k:Nat} (h:k∈AO n s):k < n:=by unfold AO at h;exact List.mem_range.1 (List.mem_filter.1 h).1
def BM:List Nat→Nat
 | []=>0
 | k::H=>2 ^ k ||| BM H
theorem TY (H:List Nat) (j:Nat):(BM H).testBit j=decide (j∈H):=by
 induction H with
 | nil=>simp[BM]
 | cons k H ih =>
  unfold BM
  rw[Nat.testBit_or,Nat.testBit_two_pow,ih]
  by_cases h:k=j
  ·subst h;simp
  ·have:j≠k:=fun e=>h e.symm
   simp[h,this]
theorem eB {H:List Nat} {n:Nat} (h:∀ k∈H,k < n):BM H < 2 ^ n:=Nat.lt_pow_two_of_testBit _ fun i hi=>by
 rw[TY]
 exact decide_eq_false fun hm=>by have:=h i hm;omega
theorem W9 {H:List Nat} {n:Nat} (ha:H.Pairwise (· < ·)) (h:∀ k∈H,k < n):AO n (BM H)=H:=by
 refine List.Perm.eq_of_pairwise (le:=(· < ·)) (fun a b _ _ h1 h2=>absurd h1 (by omega)) (Jw _ _) ha ((List.perm_ext_iff_of_nodup (FN (Jw _ _)) (FN ha)).2 fun j=>?_)
 unfold AO
 rw[List.mem_filter,List.mem_range,TY,decide_eq_true_iff]
 exact⟨fun h=>h.2,fun hj=>⟨h j hj,hj⟩⟩
theorem WA {n : Nat} : ∀ {C : List Nat}, (∀ c ∈ C, c < 2 ^ n) → ∃ K : List Nat, K.Pairwise (· < ·) ∧ (∀ k ∈ K, k < n) ∧ bL C K ∧ K.length ≤ (C.filter fun c => c != 0).length
 | [],_=>⟨[],List.Pairwise.nil,(fun _ h=>absurd h List.not_mem_nil),(fun _ h=>absurd h List.not_mem_nil),Nat.zero_le _⟩
 | c :: C, h => by
  obtain⟨K,h1,h2,h3,h4⟩:=WA (C:=C) fun d hd=>h d (by simp[hd])
  by_cases h0:c=0
  ·refine⟨K,h1,h2,fun d hd=>?_,?_⟩
   ·rcases List.mem_cons.1 hd with rfl | hd
    ·exact .inl h0
    ·exact h3 d hd
   ·rw[List.filter_cons,if_neg (by simp[h0])];exact h4
  ·have hlen:((c::C).filter fun c=>c != 0).length=(C.filter fun c=>c != 0).length+1:=by rw[List.filter_cons,if_pos (by simpa using h0)];rfl
   cases hh:Iq c K with
   | true =>
    refine⟨K,h1,h2,fun d hd=>?_,by omega⟩
    rcases List.mem_cons.1 hd with rfl | hd
    ·exact .inr hh
    ·exact h3 d hd
   | false =>
    obtain⟨k,hk⟩:=Nat.exists_testBit_of_ne_zero h0
    have hkn:k < n:=by
     apply Classical.byContradiction
     intro hkn
     have:=Nat.testBit_lt_two_pow (x:=c) (i:=k) (Nat.lt_of_lt_of_le (h c (by simp)) (Nat.pow_le_pow_right (by omega) (by omega)))
     rw[this] at hk;cases hk
    have hkK:k ∉ K:=fun hm=>by
     have:Iq c K=true:=DT.2 ⟨k,hm,hk⟩
     rw[hh] at this;cases this
    have hnd:(K++[k]).Nodup:=List.nodup_append.2 ⟨FN h1,by simp,by intro a ha b hb e;rw[List.mem_singleton.1 hb] at e;rw[e] at ha;exact hkK ha⟩
    obtain⟨A,a1,a2,a3,_⟩:=Zz (n:=n) hnd (fun a ha=>by
     rcases List.mem_append.1 ha with ha | ha
     ·exact h2 a ha
     ·rw[List.mem_singleton.1 ha];exact hkn)
    refine⟨A,a1,a3,fun d hd=>?_,by rw[a2.length_eq,List.length_append];simp;omega⟩
    rcases List.mem_cons.1 hd with rfl | hd
    ·exact .inr (DT.2 ⟨k,a2.mem_iff.2 (by simp),hk⟩)
    ·exact(h3 d hd).imp id fun g=>K8 (fun a ha=>a2.mem_iff.2 (List.mem_append_left _ ha)) g
variable {lt:List Int→List Int→Bool} {n:Nat} {C H:List Nat}
theorem ZP (hC:∀ c∈C,c < 2 ^ n) (hb:O7 lt n C H):H.length≤(C.filter fun c=>c != 0).length:=by
 obtain⟨K,h1,h2,h3,h4⟩:=WA hC
 rcases hb.least K h1 h2 h3 with rfl | h | ⟨h,_⟩
 ·exact h4
 ·simp[ints] at h;omega
 ·simp[ints] at h;omega
theorem ZQ (ho:Zv lt) (hC:∀ c∈C,c < 2 ^ n) (hb:O7 lt n C H) {s:Nat} (hs:TW C s=true):¬ (AO n s).length < H.length∧((AO n s).length=H.length→lt (ints (AO n s)) (ints H)=false):=by
 have h:=hb.least (AO n s) (Jw n s) (fun k hk=>PI hk) ((Wz hC).1 hs)
 rcases h with h | h | ⟨h,h2⟩
 ·rw[←h];exact⟨Nat.lt_irrefl _,fun _=>ho.irr _⟩
 ·have:H.length < (AO n s).length:=by simpa [ints] using h
  exact⟨by omega,fun e=>by omega⟩
 ·have:H.length=(AO n s).length:=by simpa [ints] using h
  refine⟨by omega,fun _=>?_⟩
  cases e:lt (ints (AO n s)) (ints H) with
  | false=>rfl
  | true =>
   have:=ho.trans h2 e
   rw[ho.irr] at this;cases this
def Xb (n:Nat) (C H:List Nat):Nat→Bool
 | 0=>false
 | s+1=>Xb n C H s || (TW C s && decide (ints (AO n s)=ints H))
theorem ZR {s t:Nat} (h:s≤t) (hs:Xb n C H s=true):Xb n C H t=true:=by
 induction h with
 | refl=>exact hs
 | step _ ih=>unfold Xb;rw[ih];rfl
theorem eF (hC:∀ c∈C,c < 2 ^ n) (hb:O7 lt n C H):Xb n C H (2 ^ n)=true:=by
 have h1:=eB hb.rng
 have h2:=W9 hb.asc hb.rng
 refine ZR (s:=BM H+1) h1 ?_
 unfold Xb
 rw[h2,(Wz hC).2 (by rw[h2];exact hb.hit)]
 simp
end Go.BkH
set_option maxRecDepth 100000
set_option maxHeartbeats 4000000
namespace Go.BkQ
open Go Go.Sp Go.BkSM Go.BkH
theorem q21 (k:Nat) (args:List Value):Bp (k+1) 21 args=m21 (Bp k) L args:=by kernel_rfl
theorem q48 (k:Nat) (args:List Value):Bp (k+1) 48 args=m48 (Bp k) L args:=by kernel_rfl
def vF:Nat→List Nat→Nat
 | z,[]=>z
 | z,k::r=>vF (z ||| 2 ^ k) r
theorem WB:∀ (l:List Nat) (z j:Nat),(vF z l).testBit j=(z.testBit j || decide (j∈l))
 | [],z,j=>by simp[vF]
 | k :: r, z, j => by
  unfold vF
  rw[WB r,Nat.testBit_or,Nat.testBit_two_pow]
  by_cases h:k=j
  ·subst h;simp
  ·have:j≠k:=fun e=>h e.symm
   simp[h,this]
theorem ZT {n s:Nat} (hs:s < 2 ^ n):vF 0 (AO n s)=s:=by
 apply Nat.eq_of_testBit_eq
 intro j
 rw[WB,Nat.zero_testBit,Bool.false_or]
 unfold AO
 cases h:s.testBit j with
 | false=>exact decide_eq_false fun hm=>by have:=(List.mem_filter.1 hm).2;rw[h] at this;cases this
 | true =>
  refine decide_eq_true (List.mem_filter.2 ⟨List.mem_range.2 ?_,h⟩)
  apply Classical.byContradiction
  intro hn
  have:=Nat.testBit_lt_two_pow (x:=s) (i:=j) (Nat.lt_of_lt_of_le hs (Nat.pow_le_pow_right (by omega) (by omega)))
  rw[this] at h;cases h
section
variable {r c k f g f2:Nat} {us:List Nat} {x:List Int}
theorem UG (n:Nat) {k m:Nat} (h:k < m) (hm:m≤16):Bp (n+1) 48 [I 0,I (.ofNat k),I (Aj .i64 (Int.sub (.ofNat m) 1))]=some (.bool true):=by
 have e:Aj .i64 (Int.sub (.ofNat m) 1) = .ofNat (m - 1):=by
  rw[show Int.sub (.ofNat m) 1=((m - 1:Nat):Int) from by show (m:Int) - 1=_;omega]
  exact Oe _ (by omega) (by omega)
 rw[q48,e]
 show bb (nt (AY (.ofNat k) (.ofNat 0))) (some (Value.bool (nt (AY (.ofNat (m - 1)) (.ofNat k))))) (some (Value.bool false))=some (Value.bool true)
 rw[Fp (by omega),show nt false=true from rfl,Ak,Fp (by omega)];rfl
theorem OQ (n M:Nat) (hx16:x.length≤16) {B:List Nat} (hB:∀ k∈B,k < x.length) (hB16:B.length≤16) (hasc:B.Pairwise (· < ·)) (cs:List Value):∀ (rest:List Nat) (w i z:Nat) (last:Int),B.drop i=rest→rest.length < w→z < 65536→(∀ k∈rest,last < .ofNat k) →
 Pf (Bp (n+1)) M w (sl g x) 0 cs last (.ofNat z) (sl f2 (ints B)) (.ofNat B.length) (.ofNat i)=Pe (Bp (n+1)) M (sl g x) 0 cs (.ofNat (vF z rest))
 | _,0,_,_,_,_,h,_,_=>by omega
 | [], w + 1, i, z, last, hd, _, _, _ => by
  have h1:B.length≤i:=List.drop_eq_nil_iff.1 hd
  show Oz (Bp (n+1)) M (Pf (Bp (n+1)) M w) (sl g x) 0 cs last (.ofNat z) (sl f2 (ints B)) (.ofNat B.length) (.ofNat i)=_
  unfold Oz
  rw[Fp (by omega),AA];rfl
 | k :: rest, w + 1, i, z, last, hd, hw, hz, hl => by
  have hi:i < B.length:=by
   apply Classical.byContradiction
   intro h
   rw[List.drop_eq_nil_of_le (by omega)] at hd;cases hd
  have hBi:B[i]=k∧B.drop (i+1)=rest:=by
   rw[List.drop_eq_getElem_cons hi] at hd
   injection hd with h1 h2;exact⟨h1,h2⟩
  have hk:k < x.length:=hB k (by rw[←hBi.1];exact List.getElem_mem hi)
  have hget:AL (sl f2 (ints B)).cs (i*1)=some (I (.ofNat k)):=by
   show AL ((ints B).map I) (i*1)=_
   rw[BZ,Nat.mul_one];simp[ints,hi,hBi.1]
  have hn:(sl f2 (ints B)).n=B.length:=by show (ints B).length=_;simp[ints]
  have hord:∀ j∈rest,Int.ofNat k < Int.ofNat j:=fun j hj=>by
   have hp:(k::rest).Pairwise (· < ·):=by rw[←hd];exact hasc.sublist (List.drop_sublist _ _)
   exact Int.ofNat_lt.2 ((List.pairwise_cons.1 hp).1 j hj)
  have ih:=OQ n M hx16 hB hB16 hasc cs rest w (i+1) (z ||| 2 ^ k) (.ofNat k) hBi.2 (by rw[List.length_cons] at hw;omega) (Nat.or_lt_two_pow (n:=16) hz (SI (by omega))) hord
  have hbt:=UG n hk hx16
  show Oz (Bp (n+1)) M (Pf (Bp (n+1)) M w) (sl g x) 0 cs last (.ofNat z) (sl f2 (ints B)) (.ofNat B.length) (.ofNat i)=_
  have hlt:AY last (.ofNat k)=true:=by rw[G9];exact decide_eq_true (hl k (by simp))
  unfold Oz
  rw[FY hi,Ak,Cx,Ac,hn,FM hi,Ak,hget,Ac,BP,Ac,show Int.ofNat (sl g x).n=Int.ofNat x.length from rfl,hbt,Ac,BU,Ac,show nt true=false from rfl,AA,hlt,show nt true=false from rfl,AA,Cx,Ac,AdD (show k < 16 by omega) hz,DC i (by omega)]
  exact ih
theorem OT (n M:Nat) {s:Nat} (hg:(r,c,us)∈BB) (hx:x.length=r*c) (hs:s < 65536):∀ (rest:List Nat) (w i:Nat),us.drop i=rest→rest.length < w →
 Oy (Bp (n+1)) M w (sl g x) 0 (Gy r c k f us) (.ofNat s) (.ofNat us.length) (.ofNat i)=some (I (bb (TW (rest.map fun t=>Kg x (cellL r c t)) s) 0 14))
 | _,0,_,_,h=>by omega
 | [], w + 1, i, hd, _ => by
  have h1:us.length≤i:=List.drop_eq_nil_iff.1 hd
  show Ox (Bp (n+1)) M (Oy (Bp (n+1)) M w) (sl g x) 0 (Gy r c k f us) (.ofNat s) (.ofNat us.length) (.ofNat i)=_
  unfold Ox
  rw[Fp (by omega),AA];rfl
 | t :: rest, w + 1, i, hd, hw => by
  obtain⟨hget,hd2,hi⟩:=Wo hd
  have hp:=Co hg
  have hrc:r*c≤16:=Nat.mul_le_mul hp.r4 hp.c4
  have h8:=hp.len8
  have hat:=Ws hd
  have hch:Bp (n+1) 36 [Cv 0 (Gy r c k f us),Sl.v 1 (sl g x),I (.ofNat i)]=some (.int .u16 (.ofNat (Kg x (cellL r c t)))):=L6 n g f hg hat hx
  have hcin:Kg x (cellL r c t) < 65536:=by
   have:=QN x (cellL r c t)
   rw[(hp.row t (List.mem_of_getElem? hat)).2.1] at this
   exact Nat.lt_of_lt_of_le this (Nat.pow_le_pow_right (n:=2) (by omega) hrc)
  have ih:=OT n M hg hx hs rest w (i+1) hd2 (by rw[List.length_cons] at hw;omega)
  rw[List.map_cons]
  generalize Kg x (cellL r c t)=e at *
  have es:TW (e::rest.map fun t=>Kg x (cellL r c t)) s=((e == 0 || !(e &&& s == 0)) && TW (rest.map fun t=>Kg x (cellL r c t)) s):=rfl
  rw[es]
  show Ox (Bp (n+1)) M (Oy (Bp (n+1)) M w) (sl g x) 0 (Gy r c k f us) (.ofNat s) (.ofNat us.length) (.ofNat i)=_
  unfold Ox Sc
  rw[FY hi,Ak,hch,Ac,show Bi .u16 (.int .u16 (.ofNat e))=some (.ofNat e) from rfl,Ac,Wv hcin hs,show (0:Int) = .ofNat 0 from rfl,Eb,Eb,DC i (by omega)]
  by_cases h0:e=0
  ·subst h0
   rw[show Nat.beq 0 0=true from rfl,show nt true=false from rfl,AA,AA]
   exact ih
  ·rw[show Nat.beq e 0=false from Bool.eq_false_iff.2 fun h=>h0 (Nat.eq_of_beq_eq_true h),show nt false=true from rfl,Ak,show (e == 0)=false from beq_eq_false_iff_ne.2 h0,Bool.false_or]
   by_cases h1:e &&& s=0
   ·rw[h1];rfl
   ·rw[show Nat.beq (e &&& s) 0=false from Bool.eq_false_iff.2 fun h=>h1 (Nat.eq_of_beq_eq_true h),AA,show (e &&& s == 0)=false from beq_eq_false_iff_ne.2 h1]
    exact ih
theorem bI (n:Nat) {s:Nat} (hg:(r,c,us)∈BB) (hk:k=1∨k=2∨k=3∨k=4) (hR:I8 r c k x) (hs:s < 2 ^ (r*c)):Bp (n+8) 21 [Hy r c k f us,S g x,S f2 (ints (AO (r*c) s))]=some (I (bb (TW (C8 r c x us) s) 0 14)):=by
 have hp:=Co hg
 have hrc:r*c≤16:=Nat.mul_le_mul hp.r4 hp.c4
 have h8:=hp.len8
 have hs16:s < 65536:=Nat.lt_of_lt_of_le hs (Nat.pow_le_pow_right (n:=2) (by omega) hrc)
 have h1:=KW n f g hg hk hR
 have h1':Bp (n+7) 32 [.agg ⟨[I (.ofNat r),I (.ofNat c),I (.ofNat k),Sl.v 1 ⟨len us,f,Gt us⟩]⟩,(Sl.v 1 (Sl.mk 1 0 (Aq (1*1) (Am 0 ([(Sl.v 1 (sl g x))]:List Value)))))]=some (.tuple ⟨[Cv 0 (Gy r c k f us),I 0]⟩):=h1
 have hbl:(AO (r*c) s).length≤16:=by
  have:(AO (r*c) s).length≤r*c:=by unfold AO;exact Nat.le_trans (List.length_filter_le _ _) (by simp)
  omega
 have h2:=OQ (g:=g) (f2:=f2) (x:=x) (n+6) L (by rw[hR.1];exact hrc) (B:=AO (r*c) s) (fun k hk=>by rw[hR.1];exact PI hk) hbl (Jw _ _) (Gy r c k f us) (AO (r*c) s) L 0 0 (-1) List.drop_zero (by show _ < 1000000;omega) (by omega) (fun k _=>by show (-1:Int) < (k:Int);omega)
 rw[ZT hs] at h2
 have h3:=OT (k:=k) (f:=f) (g:=g) (n+6) L hg hR.1 hs16 us L 0 List.drop_zero (by show _ < 1000000;omega)
 rw[q21]
 show bR (Bp (n+7)) L (.ofNat r) (.ofNat c) (.ofNat k) ⟨len us,f,Gt us⟩ (sl g x) (sl f2 (ints (AO (r*c) s)))=_
 unfold bR
 simp only[h1',Ac,FW,Dj,EG,Zu,NA,Ak,BP,uY,AA]
 rw[show (sl f2 (ints (AO (r*c) s))).n=(AO (r*c) s).length from by show (ints (AO (r*c) s)).length=_;simp[ints]]
 refine Eq.trans h2 ?_
 unfold Pe
 rw[SK,Ac,Dc,Ac,show (Sl.mk (len us) f (Gt us)).n=us.length from AV us]
 exact h3
end
end Go.BkQ
set_option maxRecDepth 100000
set_option maxHeartbeats 4000000
namespace Go.BkQ
open Go Go.Sp Go.BkSM Go.BkH
section
variable (pu:Af) (M:Nat) (ih0:Sl→Int→Nat→Nat→Sl→Int→Int→Int→Int→Int→Sl→List Value→Option Value)
theorem TZ {row:List Nat} {x:List Int} (hx:row.length=x.length) (hx16:x.length≤16) (hr:∀ k∈row,k < x.length) (zN zl zi R C K:Int) (n2 c2:Nat) (s3 s4:Sl) (q:List Value) (hq:Au Ah q=true):∀ (rest:List Nat) (w i z:Nat),row.drop i=rest→rest.length < w→z < 65536 →
 Nh pu M ih0 w (sl 0 x) zN n2 c2 (sl 0 (pick x row)) (.ofNat z) s3 zl zi (.ofNat x.length) (.ofNat i) R C K s4 q=R8 pu M ih0 (sl 0 x) zN n2 c2 (.ofNat (O8 x i z rest)) s3 zl zi R C K s4 q
 | _,0,_,_,_,h,_=>by omega
 | [], w + 1, i, z, hd, _, _ => by
  have h1:row.length≤i:=List.drop_eq_nil_iff.1 hd
  show Ng pu M ih0 (Nh pu M ih0 w) (sl 0 x) zN n2 c2 (sl 0 (pick x row)) (.ofNat z) s3 zl zi (.ofNat x.length) (.ofNat i) R C K s4 q=_
  unfold Ng
  rw[hq,Ak,Fp (by omega),AA];rfl
 | k :: rest, w + 1, i, z, hd, hw, hz => by
  obtain⟨_,hd2,hi⟩:=Wo hd
  have hrl:(k::rest).length=rest.length+1:=rfl
  have hi3:i < x.length:=by omega
  have hri:row[i]=k:=by
   rw[List.drop_eq_getElem_cons hi] at hd
   injection hd
  have hk:=hr k (by rw[←hri];exact List.getElem_mem hi)
  have hpl:i < (pick x row).length:=by unfold pick;rw[List.length_map];exact hi
  have e1:x.getD k 0=x[k]:=by simp[List.getD_eq_getElem?_getD,hk]
  have e2:x.getD i 0=x[i]:=by simp[List.getD_eq_getElem?_getD,hi3]
  have e3:(pick x row)[i]=x[k]:=by
   have h:(pick x row)[i]?=some (x[k]):=by
    show (row.map fun k=>x.getD k 0)[i]?=_
    rw[List.getElem?_map,List.getElem?_eq_getElem hi,hri,Option.map_some,e1]
   rw[List.getElem?_eq_getElem hpl] at h
   exact Option.some.inj h
  have ih:=fun z hz=>TZ hx hx16 hr zN zl zi R C K n2 c2 s3 s4 q hq rest w (i+1) z hd2 (by omega) hz
  show Ng pu M ih0 (Nh pu M ih0 w) (sl 0 x) zN n2 c2 (sl 0 (pick x row)) (.ofNat z) s3 zl zi (.ofNat x.length) (.ofNat i) R C K s4 q=_
  unfold Ng R9 O8
  simp only[hq,Ak,FY hi3,Cx,Ac,I4,GX,FM hi3,LY hi3,BP,FM hpl,LY hpl,e3,DL,DC i (by omega),AeL (show i < 16 by omega) hz,e1,e2]
  by_cases h:x[k]=x[i]
  ·rw[decide_eq_true h.symm,show nt true=false from rfl,AA,if_pos h];exact ih z hz
  ·rw[decide_eq_false fun e=>h e.symm,show nt false=true from rfl,Ak,if_neg h]
   exact ih _ (Nat.or_lt_two_pow (n:=16) hz (SI (by omega)))
end
section
variable (n M:Nat) {r c k f:Nat} {us:List Nat} {x:List Int}
noncomputable def nz (l:List Nat):List Nat:=l.filter fun c=>c != 0
theorem OU (hg:(r,c,us)∈BB) (hx:x.length=r*c) (hM:100 < M) (zN K:Int) (s4:Sl):∀ (rest:List Nat) (w i c2:Nat) (C:List Nat),us.drop i=rest→rest.length < w→C.length≤i→c2 / 2=C.length→c2 % 2=0→∃ c2',
 G5 (Bp (n+2)) M w (sl 0 x) zN C.length c2 ⟨len us,f,Gt us⟩ (.ofNat us.length) (.ofNat i) (.ofNat r) (.ofNat c) K s4 ((ints C).map I)=WH (Bp (n+2)) M (sl 0 x) zN (C++nz (rest.map fun t=>Kg x (cellL r c t))).length c2' (.ofNat r) (.ofNat c) K s4 ((ints (C++nz (rest.map fun t=>Kg x (cellL r c t)))).map I)
 | _,0,_,_,_,_,h,_,_,_=>by omega
 | [], w + 1, i, c2, C, hd, _, _, _, _ => by
  refine⟨c2,?_⟩
  have h1:us.length≤i:=List.drop_eq_nil_iff.1 hd
  show Ni (Bp (n+2)) M (G5 (Bp (n+2)) M w) (sl 0 x) zN C.length c2 ⟨len us,f,Gt us⟩ (.ofNat us.length) (.ofNat i) (.ofNat r) (.ofNat c) K s4 ((ints C).map I)=_
  unfold Ni
  rw[CY,Ak,Fp (by omega),AA,show nz (([]:List Nat).map fun t=>Kg x (cellL r c t))=[] from rfl,List.append_nil]
 | t :: rest, w + 1, i, c2, C, hd, hw, hC, a1, a2 => by
  obtain⟨hget,hd2,hi⟩:=Wo hd
  have hrl:(t::rest).length=rest.length+1:=rfl
  have hp:=Co hg
  have hrc:r*c≤16:=Nat.mul_le_mul hp.r4 hp.c4
  have h8:=hp.len8
  have ht:t∈us:=List.mem_of_getElem? (Ws hd)
  obtain⟨_,h1,h2⟩:=hp.row t ht
  have e1:Bp (n+2) 10 [Sl.v 1 (sl 0 x),I (.ofNat r),I (.ofNat c),I (.ofNat t)]=some (Sl.v 1 (sl 0 (pick x (cellL r c t)))):=UE n 0 hg ht hx
  have hs:=TZ (Bp (n+2)) M (G5 (Bp (n+2)) M w) (row:=cellL r c t) (x:=x) (by omega) (by omega) (fun j hj=>by rw[hx];exact h2 j hj) zN (.ofNat us.length) (.ofNat i) (.ofNat r) (.ofNat c) K C.length c2 ⟨len us,f,Gt us⟩ s4 ((ints C).map I) (CY _) (cellL r c t) M 0 0 List.drop_zero (by omega) (by omega)
  have hlC:(ints C).length=C.length:=by simp[ints]
  show ∃ c2',Ni (Bp (n+2)) M (G5 (Bp (n+2)) M w) (sl 0 x) zN C.length c2 ⟨len us,f,Gt us⟩ (.ofNat us.length) (.ofNat i) (.ofNat r) (.ofNat c) K s4 ((ints C).map I)=_
  unfold Ni
  rw[CY,Ak,FY hi,Ak,Cx,Ac,FM (show i < (Sl.mk (len us) f (Gt us)).n from by show i < len us;rw[AV];exact hi),Ak,show AL (Sl.mk (len us) f (Gt us)).cs (i*1)=some (I (.ofNat t)) from hget,Ac,BP,Ac,e1,Ac,Dc,Ac,show Int.ofNat (sl 0 x).n=Int.ofNat x.length from rfl]
  rw[show (0:Int) = .ofNat 0 from rfl,hs,show O8 x 0 0 (cellL r c t)=Kg x (cellL r c t) from rfl]
  unfold R8 R7
  rw[CY,Ak,show (0:Int) = .ofNat 0 from rfl,Dr]
  by_cases h0:Kg x (cellL r c t)=0
  ·rw[h0,show decide (0 < 0)=false from rfl,AA,Ak,DC i (by omega)]
   obtain⟨c2',ih⟩:=OU hg hx hM zN K s4 rest w (i+1) c2 C hd2 (by omega) (by omega) a1 a2
   refine⟨c2',?_⟩
   have e:nz ((t::rest).map fun t=>Kg x (cellL r c t))=nz (rest.map fun t=>Kg x (cellL r c t)):=by
    unfold nz;rw[List.map_cons,List.filter_cons,if_neg (by simp[h0])]
   rw[e];exact ih
  ·have hgr:=gV (q:=ints C) (c:=c2) (by rw[hlC];omega) (by rw[hlC];exact a1) a2
   rw[hlC] at hgr
   rw[decide_eq_true (Nat.pos_of_ne_zero h0),Ak,hgr,Ak,gW,CY,Ak,Ak,DC i (by omega)]
   have e2:ints C++[Int.ofNat (Kg x (cellL r c t))]=ints (C++[Kg x (cellL r c t)]):=by simp[ints]
   obtain⟨c2',ih⟩:=OU hg hx hM zN K s4 rest w (i+1) (2*(C.length+1)+0) (C++[Kg x (cellL r c t)]) hd2 (by omega) (by simp;omega) (by rw[List.length_append];show (2*(C.length+1)+0) / 2=C.length+1;omega) (by omega)
   refine⟨c2',?_⟩
   have e:nz ((t::rest).map fun t=>Kg x (cellL r c t))=Kg x (cellL r c t)::nz (rest.map fun t=>Kg x (cellL r c t)):=by
    unfold nz;rw[List.map_cons,List.filter_cons,if_pos (by simpa using h0)]
   rw[e,e2]
   rw[List.append_assoc,List.length_append] at ih
   exact ih
end
section
variable (pu:Af) (M:Nat) (ih0:Sl→Int→Nat→Nat→Sl→Bool→Int→Int→Int→Int→Sl→List Value→Option Value) (sX sH s4:Sl) (found:Bool) (R Cc K:Int)
def vG (C:List Nat) (s:Nat):Bool:=C.all fun c=>!(c &&& s == 0)
theorem Xa (i s:Nat):AO (i+1) s=if s.testBit i then AO i s++[i] else AO i s:=by
 unfold AO
 rw[List.range_succ,List.filter_append,List.filter_cons]
 cases s.testBit i <;> simp
theorem OW {N s:Nat} (hN:N≤16) (hs:s < 65536) (n1 c1:Nat) (q:List Value) (hq:Au Ah q=true):∀ (d w i c2:Nat),i+d=N→d < w→c2 / 2=(AO i s).length→c2 % 2=0→∃ c2',
 Nf pu M ih0 w sX (.ofNat N) n1 c1 sH found (.ofNat s) (AO i s).length c2 (.ofNat i) R Cc K s4 q ((ints (AO i s)).map I)=X7 pu M ih0 sX (.ofNat N) n1 c1 sH found (.ofNat s) (AO N s).length c2' R Cc K s4 q ((ints (AO N s)).map I)
 | _,0,_,_,_,h,_,_=>by omega
 | 0, w + 1, i, c2, hd, _, _, _ => by
  refine⟨c2,?_⟩
  obtain rfl:i=N:=by omega
  show Nc pu M ih0 (Nf pu M ih0 w) sX (.ofNat i) n1 c1 sH found (.ofNat s) (AO i s).length c2 (.ofNat i) R Cc K s4 q ((ints (AO i s)).map I)=_
  unfold Nc
  rw[hq,Ak,CY,Ak,Fp (by omega),AA]
 | d + 1, w + 1, i, c2, hd, hw, a1, a2 => by
  have hbl:(AO i s).length≤i:=by unfold AO;exact Nat.le_trans (List.length_filter_le _ _) (by simp)
  have hlC:(ints (AO i s)).length=(AO i s).length:=by simp[ints]
  show ∃ c2',Nc pu M ih0 (Nf pu M ih0 w) sX (.ofNat N) n1 c1 sH found (.ofNat s) (AO i s).length c2 (.ofNat i) R Cc K s4 q ((ints (AO i s)).map I)=_
  unfold Nc R6
  simp only[hq,Ak,CY,FY (show i < N by omega),Cx,Ac,AdJ hs (show i < 16 by omega),DC i (by omega)]
  have hsucc:=Xa i s
  cases hb:s.testBit i with
  | true =>
   rw[hb,if_pos rfl] at hsucc
   have hgr:=gV (q:=ints (AO i s)) (c:=c2) (by rw[hlC];omega) (by rw[hlC];exact a1) a2
   rw[hlC] at hgr
   simp only[Ak,hgr,gW,CY]
   have e2:ints (AO i s)++[Int.ofNat i]=ints (AO (i+1) s):=by rw[hsucc];simp[ints]
   have e3:(AO (i+1) s).length=(AO i s).length+1:=by rw[hsucc];simp
   obtain⟨c2',ih⟩:=OW hN hs n1 c1 q hq d w (i+1) (2*((AO i s).length+1)+0) (by omega) (by omega) (by rw[e3];omega) (by omega)
   rw[e3,←e2] at ih
   exact⟨c2',ih⟩
  | false =>
   rw[hb,if_neg (by simp)] at hsucc
   simp only[AA]
   have ih:=OW hN hs n1 c1 q hq d w (i+1) c2 (by omega) (by omega) (by rw[hsucc];exact a1) a2
   rw[hsucc] at ih
   exact ih
theorem LK {C:List Nat} {s:Nat} (hs:s < 65536) (hC:∀ c∈C,c < 65536) (hC8:C.length≤16) (zN:Int) (n2 c2 c1:Nat) (q2:List Value) (hq2:Au Ah q2=true):∀ (d w i:Nat) (b:Bool),i+d=C.length→d < w →
 O9 pu M ih0 w sX zN C.length c1 sH found (.ofNat s) n2 c2 b C.length c1 (.ofNat C.length) (.ofNat i) R Cc K s4 ((ints C).map I) q2=WG pu M ih0 sX zN C.length c1 sH found (.ofNat s) n2 c2 (b && vG (C.drop i) s) R Cc K s4 ((ints C).map I) q2
 | _,0,_,_,_,h=>by omega
 | 0, w + 1, i, b, hd, _ => by
  show M9 pu M ih0 (O9 pu M ih0 w) sX zN C.length c1 sH found (.ofNat s) n2 c2 b C.length c1 (.ofNat C.length) (.ofNat i) R Cc K s4 ((ints C).map I) q2=_
  unfold M9
  rw[CY,Ak,hq2,Ak,Fp (by omega),AA,List.drop_eq_nil_of_le (by omega),show vG [] s=true from rfl,Bool.and_true]
 | d + 1, w + 1, i, b, hd, hw => by
  have hi:i < C.length:=by omega
  have hget:AL ((ints C).map I) (0+i*1)=some (I (.ofNat C[i])):=by
   rw[BZ,Nat.zero_add,Nat.mul_one];simp[ints,hi]
  have yY:vG (C.drop i) s=(!(C[i] &&& s == 0) && vG (C.drop (i+1)) s):=by rw[List.drop_eq_getElem_cons hi];rfl
  have e:nt (Bd (Np .i64 (.ofNat C[i]) (.ofNat s)) 0) = !(C[i] &&& s == 0):=by
   rw[gY (hC _ (List.getElem_mem hi)) hs,show (0:Int) = .ofNat 0 from rfl,Eb]
   cases h:(C[i] &&& s == 0) with
   | true=>rw[eq_of_beq h];rfl
   | false=>rw[show Nat.beq (C[i] &&& s) 0=false from Bool.eq_false_iff.2 fun g=>by rw[Nat.eq_of_beq_eq_true g] at h;cases h];rfl
  show M9 pu M ih0 (O9 pu M ih0 w) sX zN C.length c1 sH found (.ofNat s) n2 c2 b C.length c1 (.ofNat C.length) (.ofNat i) R Cc K s4 ((ints C).map I) q2=_
  unfold M9
  rw[CY,Ak,hq2,Ak,FY hi,Ak,Cx,Ac,FM hi,Ak,hget,Ac,BP,Ac,e,DC i (by omega),yY]
  cases b with
  | true =>
   rw[Ak,Bool.true_and]
   exact LK hs hC hC8 zN n2 c2 c1 q2 hq2 d w (i+1) _ (by omega) (by omega)
  | false =>
   rw[AA,Bool.false_and]
   have:=LK hs hC hC8 zN n2 c2 c1 q2 hq2 d w (i+1) false (by omega) (by omega)
   rw[Bool.false_and] at this;exact this
end
end Go.BkQ
set_option maxRecDepth 100000
set_option maxHeartbeats 4000000
namespace Go.BkQ
open Go Go.Sp Go.BkSM Go.BkH
theorem q4 (k:Nat) (args:List Value):Bp (k+1) 4 args=m4 (Bp k) L args:=by kernel_rfl
theorem AeM (n:Nat):Bp (n+1) 19 []=some (.bool true):=by kernel_rfl
theorem vB (C:List Nat) (s:Nat):vG (nz C) s=TW C s:=by
 rw[←UF]
 unfold vG TW nz
 have h:∀ l:List Nat,(∀ c∈l,c≠0)→(l.all fun c=>!(c &&& s == 0))=l.all fun c=>c == 0 || !(c &&& s == 0):=by
  intro l hl
  induction l with
  | nil=>rfl
  | cons c l ih=>rw[List.all_cons,List.all_cons,ih fun c hc=>hl c (by simp[hc]),show (c == 0)=false from beq_eq_false_iff_ne.2 (hl c (by simp)),Bool.false_or]
 exact h _ fun c hc=>by simpa using (List.mem_filter.1 hc).2
section
variable {r c k:Nat} {us:List Nat} {X:List Int} {H:List Nat}
theorem MR (hg:(r,c,us)∈BB):∀ e∈C8 r c X us,e < 2 ^ (r*c):=fun e he=>by
 unfold C8 at he
 obtain⟨t,ht,rfl⟩:=List.mem_map.1 he
 have:=QN X (cellL r c t)
 rwa [((Co hg).row t ht).2.1] at this
theorem vC (n M w n1 c1 c2:Nat) (q:List Value) (hq:Au Ah q=true) (hg:(r,c,us)∈BB) (hk:k=1∨k=2∨k=3∨k=4) (hR:I8 r c k X) (hb:O7 Iz (r*c) (C8 r c X us) H) {s:Nat} (hs:s < 2 ^ (r*c)) (found:Bool) :
 WG (Bp (n + 8)) M (FX (Bp (n + 8)) M w) (sl 0 X) (.ofNat (r * c)) n1 c1 (sl (Po (ints H)) (ints H)) found (.ofNat s) (AO (r * c) s).length c2 (TW (C8 r c X us) s) (.ofNat r) (.ofNat c) (.ofNat k) ⟨len us, 0, Gt us⟩ q ((ints (AO (r * c) s)).map I)
  = FX (Bp (n+8)) M w (sl 0 X) (.ofNat (r*c)) n1 c1 (sl (Po (ints H)) (ints H)) (found || (TW (C8 r c X us) s && decide (ints (AO (r*c) s)=ints H))) (.ofNat (s+1)) (.ofNat r) (.ofNat c) (.ofNat k) ⟨len us,0,Gt us⟩ q:=by
 have hrc:r*c≤16:=Nat.mul_le_mul (Co hg).r4 (Co hg).c4
 have hs16:s < 65536:=Nat.lt_of_lt_of_le hs (Nat.pow_le_pow_right (n:=2) (by omega) hrc)
 have hol:(AO (r*c) s).length≤16:=by
  have:(AO (r*c) s).length≤r*c:=by unfold AO;exact Nat.le_trans (List.length_filter_le _ _) (by simp)
  omega
 have hlo:(ints (AO (r*c) s)).length=(AO (r*c) s).length:=by simp[ints]
 have hlh:(ints H).length=H.length:=by simp[ints]
 have e21:Bp (n+8) 21 [.agg ⟨[I (.ofNat r),I (.ofNat c),I (.ofNat k),Sl.v 1 ⟨len us,0,Gt us⟩]⟩,Sl.v 1 (sl 0 X),Sl.v 1 (sl 0 (ints (AO (r*c) s)))]=some (I (bb (TW (C8 r c X us) s) 0 14)):=bI n (f2:=0) hg hk hR hs
 have e12:Bp (n+8) 12 [Sl.v 1 (sl 0 (ints (AO (r*c) s))),Sl.v 1 (sl (Po (ints H)) (ints H))]=some (.bool (decide (ints (AO (r*c) s)=ints H))):=bZ (n+7) 0 _ (by omega)
 have hbest:=ZQ Wx (MR hg) hb (s:=s)
 have hfit:=AeF (ints (AO (r*c) s))
 have htk:=AdB (ints (AO (r*c) s))
 rw[hlo] at hfit htk
 have hsl:(Sl.mk (AO (r*c) s).length 0 ((ints (AO (r*c) s)).map I):Sl)=sl 0 (ints (AO (r*c) s)):=by unfold sl;rw[hlo]
 generalize hsh:TW (C8 r c X us) s=b at *
 have e9:∀ fd:Bool,Ug (Bp (n+8)) M (FX (Bp (n+8)) M w) (sl 0 X) (.ofNat (r*c)) n1 c1 (sl (Po (ints H)) (ints H)) fd (.ofNat s) (sl 0 (ints (AO (r*c) s))) b (.ofNat r) (.ofNat c) (.ofNat k) ⟨len us,0,Gt us⟩ q=FX (Bp (n+8)) M w (sl 0 X) (.ofNat (r*c)) n1 c1 (sl (Po (ints H)) (ints H)) fd (.ofNat (s+1)) (.ofNat r) (.ofNat c) (.ofNat k) ⟨len us,0,Gt us⟩ q:=fun fd=>by
  unfold Ug bN
  rw[e21,Ac,BP,Ac,hq,Ak,show bq false (bq (Bd (bb b (0:Int) 14) 0) b)=false from by cases b <;> rfl,AA,Ak,DC s (by omega)]
 have e8:R5 (Bp (n+8)) M (FX (Bp (n+8)) M w) (sl 0 X) (.ofNat (r*c)) n1 c1 (sl (Po (ints H)) (ints H)) found (.ofNat s) (sl 0 (ints (AO (r*c) s))) b false (.ofNat r) (.ofNat c) (.ofNat k) ⟨len us,0,Gt us⟩ q=FX (Bp (n+8)) M w (sl 0 X) (.ofNat (r*c)) n1 c1 (sl (Po (ints H)) (ints H)) (found || (b && decide (ints (AO (r*c) s)=ints H))) (.ofNat (s+1)) (.ofNat r) (.ofNat c) (.ofNat k) ⟨len us,0,Gt us⟩ q:=by
  unfold R5
  rw[AA,hq,Ak,e12,Ac,BU,Ac]
  cases found with
  | true=>rw[Ak,Bool.true_or];exact e9 true
  | false =>
   rw[AA,Bool.false_or]
   cases b with
   | true=>rw[Ak,Bool.true_and];exact e9 _
   | false=>rw[AA,Bool.false_and];exact e9 _
 unfold WG
 rw[htk,hfit,Ak,hsl]
 simp only[hq,Ak]
 rw[show Int.ofNat (sl 0 (ints (AO (r*c) s))).n=Int.ofNat (AO (r*c) s).length from by show Int.ofNat (ints (AO (r*c) s)).length=_;rw[hlo],show Int.ofNat (sl (Po (ints H)) (ints H)).n=Int.ofNat H.length from by show Int.ofNat (ints H).length=_;rw[hlh]]
 cases b with
 | false=>rw[AA];exact e8
 | true =>
  obtain⟨g1,g2⟩:=hbest rfl
  rw[Ak,Fp g1,AA,Eb]
  by_cases he:(AO (r*c) s).length=H.length
  ·have e13 : Bp (n + 8) 13 [Sl.v 1 (sl 0 (ints (AO (r * c) s))), Sl.v 1 (sl (Po (ints H)) (ints H))] = some (.bool false) := by
    have:=dZ (n+7) 0 (Po (ints H)) (a:=ints (AO (r*c) s)) (b:=ints H) (by omega) (by omega)
    rw[g2 he] at this;exact this
   rw[show Nat.beq (AO (r*c) s).length H.length=true from by rw[he];simp,Ak,e13,Ac,BU,Ac];exact e8
  ·rw[show Nat.beq (AO (r*c) s).length H.length=false from Bool.eq_false_iff.2 fun h=>he (Nat.eq_of_beq_eq_true h),AA];exact e8
theorem PK (n c1:Nat) (hg:(r,c,us)∈BB) (hk:k=1∨k=2∨k=3∨k=4) (hR:I8 r c k X) (hb:O7 Iz (r*c) (C8 r c X us) H):∀ (d w s:Nat),s+d=2 ^ (r*c)→d < w →
 FX (Bp (n+8)) L w (sl 0 X) (.ofNat (r*c)) (nz (C8 r c X us)).length c1 (sl (Po (ints H)) (ints H)) (Xb (r*c) (C8 r c X us) H s) (.ofNat s) (.ofNat r) (.ofNat c) (.ofNat k) ⟨len us,0,Gt us⟩ ((ints (nz (C8 r c X us))).map I)=some (.bool true)
 | _,0,_,_,h=>by omega
 | 0, w + 1, s, hd, _ => by
  obtain rfl:s=2 ^ (r*c):=by omega
  have hrc:r*c≤16:=Nat.mul_le_mul (Co hg).r4 (Co hg).c4
  show Uh (Bp (n+8)) L (FX (Bp (n+8)) L w) (sl 0 X) (.ofNat (r*c)) (nz (C8 r c X us)).length c1 (sl (Po (ints H)) (ints H)) (Xb (r*c) (C8 r c X us) H (2 ^ (r*c))) (.ofNat (2 ^ (r*c))) (.ofNat r) (.ofNat c) (.ofNat k) ⟨len us,0,Gt us⟩ ((ints (nz (C8 r c X us))).map I)=_
  unfold Uh X6 WF
  rw[Cx,Ac,CY,Ak,ZO hrc,Fp (by omega),AA,eF (MR hg) hb,Ak,AeM,Ac,BU,Ac]
 | d + 1, w + 1, s, hd, hw => by
  have hrc:r*c≤16:=Nat.mul_le_mul (Co hg).r4 (Co hg).c4
  have hs:s < 2 ^ (r*c):=by omega
  have h16:2 ^ (r*c)≤65536:=Nat.pow_le_pow_right (n:=2) (by omega) hrc
  have hs16:s < 65536:=by omega
  have hC16:∀ e∈nz (C8 r c X us),e < 65536:=fun e he=>by
   have:=MR (X:=X) hg e (List.mem_filter.1 he).1
   omega
  have hCl:(nz (C8 r c X us)).length≤16:=by
   have h1:(nz (C8 r c X us)).length≤(C8 r c X us).length:=List.length_filter_le _ _
   have h2:(C8 r c X us).length=us.length:=by unfold C8;simp
   have:=(Co hg).len8
   omega
  have ih:=PK n c1 hg hk hR hb d w (s+1) (by omega) (by omega)
  obtain⟨c2',h1⟩:=OW (Bp (n+8)) L (FX (Bp (n+8)) L w) (sl 0 X) (sl (Po (ints H)) (ints H)) ⟨len us,0,Gt us⟩ (Xb (r*c) (C8 r c X us) H s) (.ofNat r) (.ofNat c) (.ofNat k) (N:=r*c) (s:=s) hrc hs16 (nz (C8 r c X us)).length c1 ((ints (nz (C8 r c X us))).map I) (CY _) (r*c) L 0 0 (by omega) (by show _ < 1000000;omega) rfl rfl
  have h2:=LK (Bp (n+8)) L (FX (Bp (n+8)) L w) (sl 0 X) (sl (Po (ints H)) (ints H)) ⟨len us,0,Gt us⟩ (Xb (r*c) (C8 r c X us) H s) (.ofNat r) (.ofNat c) (.ofNat k) hs16 hC16 hCl (.ofNat (r*c)) (AO (r*c) s).length c2' c1 ((ints (AO (r*c) s)).map I) (CY _) (nz (C8 r c X us)).length L 0 true (by omega) (by show _ < 1000000;omega)
  rw[List.drop_zero,Bool.true_and,vB] at h2
  have h3:=vC n L w (nz (C8 r c X us)).length c1 c2' ((ints (nz (C8 r c X us))).map I) (CY _) hg hk hR hb hs (Xb (r*c) (C8 r c X us) H s)
  show Uh (Bp (n+8)) L (FX (Bp (n+8)) L w) (sl 0 X) (.ofNat (r*c)) (nz (C8 r c X us)).length c1 (sl (Po (ints H)) (ints H)) (Xb (r*c) (C8 r c X us) H s) (.ofNat s) (.ofNat r) (.ofNat c) (.ofNat k) ⟨len us,0,Gt us⟩ ((ints (nz (C8 r c X us))).map I)=_
  unfold Uh
  rw[Cx,Ac,CY,Ak,ZO hrc,FY hs,Ak]
  refine Eq.trans h1 ?_
  unfold X7
  rw[CY,CY,Ak,Ak]
  refine Eq.trans h2 (Eq.trans h3 ?_)
  exact ih
end
theorem shown_law (n:Nat) (y0 y1 y2 y3:Int) (x:Nat→Int) (h0:0≤y0∧y0 < 256) (h1:0≤y1∧y1 < 256) (h2:0≤y2∧y2 < 256) (h3:0≤y3∧y3 < 256) (hx:∀ i,0≤x i∧x i < 256) :
 Bp (n+16) 4 [.agg ⟨[.int .u8 y0,.int .u8 y1,.int .u8 y2,.int .u8 y3,.int .u8 (x 0),.int .u8 (x 1),.int .u8 (x 2),.int .u8 (x 3),.int .u8 (x 4),.int .u8 (x 5),.int .u8 (x 6),.int .u8 (x 7),.int .u8 (x 8),.int .u8 (x 9),.int .u8 (x 10),.int .u8 (x 11),.int .u8 (x 12),.int .u8 (x 13),.int .u8 (x 14),.int .u8 (x 15)]⟩]=some (.bool true):=by
 obtain⟨r,c,k,us,X,e9,hg,hg0,hk3,hR⟩:=dY (n+14) y0 y1 y2 y3 x h0 h1 h2 h3 hx
 have hk:k=1∨k=2∨k=3∨k=4:=by omega
 have hp:=Co hg
 have h8:=hp.len8
 have hrc:r*c≤16:=Nat.mul_le_mul hp.r4 hp.c4
 rw[q4]
 show m4_ (Bp (n+15)) L [.int .u8 y0,.int .u8 y1,.int .u8 y2,.int .u8 y3,.int .u8 (x 0),.int .u8 (x 1),.int .u8 (x 2),.int .u8 (x 3),.int .u8 (x 4),.int .u8 (x 5),.int .u8 (x 6),.int .u8 (x 7),.int .u8 (x 8),.int .u8 (x 9),.int .u8 (x 10),.int .u8 (x 11),.int .u8 (x 12),.int .u8 (x 13),.int .u8 (x 14),.int .u8 (x 15)]=_
 have ec:Au Ah ([.int .u8 y0,.int .u8 y1,.int .u8 y2,.int .u8 y3,.int .u8 (x 0),.int .u8 (x 1),.int .u8 (x 2),.int .u8 (x 3),.int .u8 (x 4),.int .u8 (x 5),.int .u8 (x 6),.int .u8 (x 7),.int .u8 (x 8),.int .u8 (x 9),.int .u8 (x 10),.int .u8 (x 11),.int .u8 (x 12),.int .u8 (x 13),.int .u8 (x 14),.int .u8 (x 15)]:List Value)=true:=rfl
 have eb:Nat.ble (0+20) (len ([.int .u8 y0,.int .u8 y1,.int .u8 y2,.int .u8 y3,.int .u8 (x 0),.int .u8 (x 1),.int .u8 (x 2),.int .u8 (x 3),.int .u8 (x 4),.int .u8 (x 5),.int .u8 (x 6),.int .u8 (x 7),.int .u8 (x 8),.int .u8 (x 9),.int .u8 (x 10),.int .u8 (x 11),.int .u8 (x 12),.int .u8 (x 13),.int .u8 (x 14),.int .u8 (x 15)]:List Value))=true:=rfl
 have et:Aq 20 (Am 0 ([.int .u8 y0,.int .u8 y1,.int .u8 y2,.int .u8 y3,.int .u8 (x 0),.int .u8 (x 1),.int .u8 (x 2),.int .u8 (x 3),.int .u8 (x 4),.int .u8 (x 5),.int .u8 (x 6),.int .u8 (x 7),.int .u8 (x 8),.int .u8 (x 9),.int .u8 (x 10),.int .u8 (x 11),.int .u8 (x 12),.int .u8 (x 13),.int .u8 (x 14),.int .u8 (x 15)]:List Value))=[.int .u8 y0,.int .u8 y1,.int .u8 y2,.int .u8 y3,.int .u8 (x 0),.int .u8 (x 1),.int .u8 (x 2),.int .u8 (x 3),.int .u8 (x 4),.int .u8 (x 5),.int .u8 (x 6),.int .u8 (x 7),.int .u8 (x 8),.int .u8 (x 9),.int .u8 (x 10),.int .u8 (x 11),.int .u8 (x 12),.int .u8 (x 13),.int .u8 (x 14),.int .u8 (x 15)]:=rfl
 have e2:Au closed2 [.agg ⟨[.int .u8 y0,.int .u8 y1,.int .u8 y2,.int .u8 y3,.int .u8 (x 0),.int .u8 (x 1),.int .u8 (x 2),.int .u8 (x 3),.int .u8 (x 4),.int .u8 (x 5),.int .u8 (x 6),.int .u8 (x 7),.int .u8 (x 8),.int .u8 (x 9),.int .u8 (x 10),.int .u8 (x 11),.int .u8 (x 12),.int .u8 (x 13),.int .u8 (x 14),.int .u8 (x 15)]⟩,.int .i64 3,.int .i64 3]=true:=rfl
 have e9':Bp (n+15) 9 [.agg ⟨[.int .u8 y0,.int .u8 y1,.int .u8 y2,.int .u8 y3,.int .u8 (x 0),.int .u8 (x 1),.int .u8 (x 2),.int .u8 (x 3),.int .u8 (x 4),.int .u8 (x 5),.int .u8 (x 6),.int .u8 (x 7),.int .u8 (x 8),.int .u8 (x 9),.int .u8 (x 10),.int .u8 (x 11),.int .u8 (x 12),.int .u8 (x 13),.int .u8 (x 14),.int .u8 (x 15)]⟩,.int .i64 3,.int .i64 3]=some (.tuple ⟨[.agg ⟨[I (.ofNat r),I (.ofNat c),I (.ofNat k),Sl.v 1 ⟨len us,0,Gt us⟩]⟩,Sl.v 1 (sl 0 X)]⟩):=e9
 obtain⟨H,hb,hc⟩:=dV (n+1) 0 0 hg hk hR
 have hc':Bp (n+15) 20 [.agg ⟨[I (.ofNat r),I (.ofNat c),I (.ofNat k),Sl.v 1 ⟨len us,0,Gt us⟩]⟩,Sl.v 1 (sl 0 X)]=some (.tuple ⟨[Sl.v 1 (sl (Po (ints H)) (ints H)),I 0]⟩):=hc
 obtain⟨c2,ht⟩:=OU (n+13) L (f:=0) hg hR.1 (by show 100 < 1000000;omega) (.ofNat (r*c)) (.ofNat k) ⟨len us,0,Gt us⟩ us L 0 0 [] List.drop_zero (by show _ < 1000000;omega) (Nat.le_refl _) rfl rfl
 rw[List.nil_append] at ht
 have hch:(us.map fun t=>Kg X (cellL r c t))=C8 r c X us:=rfl
 rw[hch] at ht
 unfold m4_
 simp only[ec,eb,et,e2,Ak,e9',Ac,FW,Dj,EG,RL,BP,Dc]
 rw[show Int.ofNat (sl 0 X).n=Int.ofNat (r*c) from by show Int.ofNat X.length=_;rw[hR.1],show Int.ofNat (Sl.mk (len us) 0 (Gt us)).n=Int.ofNat us.length from by show Int.ofNat (len us)=_;rw[AV]]
 refine Eq.trans ht ?_
 have hfew:=ZP (MR hg) hb
 have hl:(sl (Po (ints H)) (ints H)).n=H.length:=by show (ints H).length=_;simp[ints]
 unfold WH X9
 rw[hc',Ac,FW,Ac,Dj,Dj,EG,Dc,Ac,BP,Ac,CY,Ak,uY,AA,hl,Fp (show ¬ (nz (C8 r c X us)).length < H.length from Nat.not_lt.2 hfew),AA,Ak]
 have h16:2 ^ (r*c)≤65536:=Nat.pow_le_pow_right (n:=2) (by omega) hrc
 exact PK (n+7) c2 hg hk hR hb (2 ^ (r*c)) L 0 (by omega) (by show _ < 1000000;omega)
end Go.BkQ
