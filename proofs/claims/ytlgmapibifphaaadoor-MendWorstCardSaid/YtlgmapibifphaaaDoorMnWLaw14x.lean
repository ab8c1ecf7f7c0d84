/- The plain law of MendTrays, first part: checks. -/
import Derived.Test.YtlgmapibifphaaaDoorSpObjx
import Derived.Test.YtlgmapibifphaaaDoorMnWPux
import Derived.KernelRfl

set_option maxRecDepth 100000
namespace Go.MnWM
open Go.Sp Go.MnW

theorem p52 (n:Nat) (a b c:Int):Eb (n+1) 52 [I a,I b,I c]=some (Value.bool (decide (a≤b) && decide (b≤c))):=by
 show bb (nt (AY b a)) (some (Value.bool (nt (AY c b)))) (some (Value.bool false))=_
 by_cases h1:a≤b <;> by_cases h2:b≤c <;> simp[JY,h1,h2,show (b < a)↔¬ a≤b from by omega,show (c < b)↔¬ b≤c from by omega]
theorem Gy {a b:Nat} (h:a < b):AY (Int.ofNat a) (Int.ofNat b)=true:=by simp[JY,h]
theorem G9 {a b:Nat} (h:¬ a < b):AY (Int.ofNat a) (Int.ofNat b)=false:=by simp[JY];omega

noncomputable def UL (p:Prop) (a b:Int):Int:=@ite _ p (Classical.propDecidable p) a b
theorem I9 {p:Prop} {a b:Int} (h:p):UL p a b=a:=if_pos h
theorem Jd {p:Prop} {a b:Int} (h:¬ p):UL p a b=b:=if_neg h
theorem O6 {p q:Prop} (h:p↔q) (a b:Int):UL p a b=UL q a b:=by rw[propext h]

def L6 (k:Int) (l:List Int):Prop:=∀ x∈l,0≤x∧x < k
def lY (K:Nat) (h w:List Int):Prop:=∀ x:Nat,x < K→h.count (x:Int)=w.count (x:Int)
noncomputable def chk (k:Int) (h w:List Int):Int:=
 UL (1≤k∧k≤5) (UL (h.length=0) 4 (UL (10 < h.length) 3 (UL (w.length=h.length) (UL (L6 k h∧L6 k w) (UL (lY k.toNat h w) 0 17) 2) 5))) 1
def tr (fl fl':Nat) (k:Int) (h w:List Int):Value:=.agg ⟨[I k,S fl h,S fl' w]⟩

theorem LK {k x:Int} {l:List Int}:L6 k (x::l)↔(0≤x∧x < k)∧L6 k l:=by simp[L6]
end Go.MnWM
set_option maxRecDepth 100000
namespace Go.MnWM
open Go.Sp Go.MnW

theorem Ha {α:Type} (v:α):∀ (i:Nat) (xs:List α),i < xs.length→BM [v] i xs=xs.set i v
 | 0,x::xs,_=>rfl
 | i + 1, x :: xs, h => by
  show x::BM [v] i xs=x::xs.set i v
  rw[Ha v i xs (by simpa using h)]
 | _,[],h=>by simp at h

theorem X0 (pu:Af) (n:Nat) (q:List Int) (hq:q.length=5):QG pu n (q.map I)=some (I (UL (∀ j,(h:j < q.length)→q[j]=0) 0 17)):=by
 match q,hq with
 | [a, b, c, d, e], _ =>
  show bb (bq false (an (Bd a 0) (an (Bd b 0) (an (Bd c 0) (an (Bd d 0) (an (Bd e 0) true)))))) (some (I 17)) (some (I 0))=_
  by_cases h:a=0∧b=0∧c=0∧d=0∧e=0
  ·obtain⟨rfl,rfl,rfl,rfl,rfl⟩:=h
   rw[I9 (by intro j hj;match j,hj with | 0,_=>rfl | 1,_=>rfl | 2,_=>rfl | 3,_=>rfl | 4,_=>rfl | j+5,hj=>simp at hj;omega)]
   rfl
  ·rw[Jd (fun g=>h ⟨g 0 (by simp),g 1 (by simp),g 2 (by simp),g 3 (by simp),g 4 (by simp)⟩)]
   have:(bq false (an (Bd a 0) (an (Bd b 0) (an (Bd c 0) (an (Bd d 0) (an (Bd e 0) true))))))=true:=by
    simp[Lr];omega
   rw[this];rfl

def upd (q:List Int) (X Y:Nat):List Int:=(q.set X (q.getD X 0+1)).set Y ((q.set X (q.getD X 0+1)).getD Y 0 - 1)
theorem Un (q:List Int) (X Y:Nat):(upd q X Y).length=q.length:=by simp[upd]
theorem Uo (q:List Int) (X Y j:Nat) (hX:X < q.length) (hY:Y < q.length) (hj:j < q.length) :
 (upd q X Y).getD j 0=q.getD j 0+(if j=X then 1 else 0) - (if j=Y then 1 else 0):=by
 unfold upd
 simp only[List.getD_eq_getElem?_getD,List.getElem?_set,List.length_set]
 by_cases h1:j=X <;> by_cases h2:j=Y <;> simp[h1,h2,hX,hY,hj,eq_comm] <;> (try subst h1) <;> (try subst h2) <;> simp_all [eq_comm] <;> omega

theorem RO (q:List Int) (X Y:Nat) (v:Int) (hX:X < q.length):(q.set X v).getD Y 0=if Y=X then v else q.getD Y 0:=by
 simp only[List.getD_eq_getElem?_getD,List.getElem?_set]
 by_cases h:X=Y
 ·subst h;simp[hX]
 ·rw[if_neg h,if_neg (fun e=>h e.symm)]
theorem Wz (pu:Af) (n:Nat) (ih0:Sl→Int→Int→Int→Sl→Sl→List Value→Option Value) (X Y i:Nat) (s t u:Sl) (z k:Int) (q:List Int) (hq:q.length=5) (hX:X < 5) (hY:Y < 5) (hi:i < 1000)
 (hb:∀ j,j < 5→-1000≤q.getD j 0∧q.getD j 0≤1000) :
 O4 pu n ih0 (Int.ofNat X) (Int.ofNat Y) s z (Int.ofNat i) false k t u (q.map I)=ih0 s z (Int.ofNat (i+1)) k t u ((upd q X Y).map I):=by
 unfold O4
 have gX : q[X]'(by omega) = q.getD X 0 := by simp [List.getD_eq_getElem?_getD, hq, hX]
 have w1:Aj .i64 (Int.add (q.getD X 0) 1)=q.getD X 0+1:=Oe _ (by have:=hb X hX;show _≤q.getD X 0+1;omega) (by have:=hb X hX;show q.getD X 0+1≤_;omega)
 have s1:BM ([I (q.getD X 0+1)]:List Value) X (q.map I)=(q.set X (q.getD X 0+1)).map I:=by
  rw[Ha _ _ _ (by simp[hq,hX]),List.map_set]
 have hl1:(q.set X (q.getD X 0+1)).length=5:=by simp[hq]
 have gY : (q.set X (q.getD X 0 + 1))[Y]'(by omega) = (q.set X (q.getD X 0 + 1)).getD Y 0 := by simp [List.getD_eq_getElem?_getD, hq, hY]
 have hbY:-1001≤(q.set X (q.getD X 0+1)).getD Y 0∧(q.set X (q.getD X 0+1)).getD Y 0≤1001:=by
  have h1:=hb X hX
  have h2:=hb Y hY
  rw[RO _ _ _ _ (by omega)]
  split <;> omega
 have w2:Aj .i64 (Int.sub ((q.set X (q.getD X 0+1)).getD Y 0) 1)=(q.set X (q.getD X 0+1)).getD Y 0 - 1:=Oe _ (by show _≤(q.set X (q.getD X 0+1)).getD Y 0 - 1;omega) (by show (q.set X (q.getD X 0+1)).getD Y 0 - 1≤_;omega)
 have s2:BM ([I ((q.set X (q.getD X 0+1)).getD Y 0 - 1)]:List Value) Y ((q.set X (q.getD X 0+1)).map I)=(upd q X Y).map I:=by
  rw[Ha _ _ _ (by simp[hq,hY]),←List.map_set];rfl
 have e1:(q.map I)[X]?=some (I (q.getD X 0)):=by rw[Aja q X (by omega),gX]
 have e2:((q.set X (q.getD X 0+1)).map I)[Y]?=some (I ((q.set X (q.getD X 0+1)).getD Y 0)):=by rw[Aja _ Y (by omega),gY]
 simp only[AA,Bh,kL,Ak,Cx,Ac,blt_eq,hX,hY,decide_true,BZ,Nat.zero_add,Nat.mul_one,e1,BP,w1,s1,ble_eq,AV,List.length_map,hq,hl1,CF,Bool.and_true,Nat.succ_le_of_lt hX,Nat.succ_le_of_lt hY,e2,w2,s2,DC i (by omega:i < 1000000)]

theorem K8 {l:List Int} {i:Nat} (h:i < l.length) (x:Int):(l.take (i+1)).count x=(l.take i).count x+(if l[i]=x then 1 else 0):=by
 rw[List.take_add_one,List.getElem?_eq_getElem h,Option.toList_some,List.count_append,List.count_singleton]
 simp only[beq_iff_eq]
theorem RP {k:Int} {l:List Int} {i:Nat} (h:i < l.length) (h1:L6 k (l.take i)) (h2:0≤l[i]∧l[i] < k):L6 k (l.take (i+1)):=by
 rw[List.take_add_one,List.getElem?_eq_getElem h]
 intro x hx
 simp only[Option.toList_some,List.mem_append,List.mem_singleton] at hx
 rcases hx with hx | rfl
 ·exact h1 x hx
 ·exact h2
theorem O7 {k:Int} {l:List Int} (h:L6 k l) {x:Int} (hx:k≤x):l.count x=0:=by
 rw[List.count_eq_zero]
 intro hm
 have:=(h x hm).2
 omega

theorem l47 (n m fl fl' K:Nat) (h w:List Int) (hh:h.length≤10) (hw:w.length=h.length) (hK1:1≤K) (hK:K≤5):∀ (f i:Nat) (q:List Int),h.length - i < f→i≤h.length→q.length=5 →
 (∀ j,j < 5→q.getD j 0=(h.take i).count (j:Int) - (w.take i).count (j:Int))→L6 K (h.take i)→L6 K (w.take i) →
 OD (Eb (n+1)) m f (sl fl h) (Int.ofNat h.length) (Int.ofNat i) (Int.ofNat K) (sl fl h) (sl fl' w) (q.map I)=some (I (UL (L6 K (h.drop i)∧L6 K (w.drop i)) (UL (lY K h w) 0 17) 2)):=by
 intro f
 induction f with
 | zero=>intro i q hi;omega
 | succ f ih =>
  intro i q hi hil hq hinv hih hiw
  show QJ (Eb (n+1)) m (OD (Eb (n+1)) m f) _ _ _ _ _ _ _=_
  unfold QJ
  rw[Bh,kL,Ak]
  by_cases hlt:i < h.length
  ·have hlw:i < w.length:=by omega
   have e1:h.drop i=h[i]::h.drop (i+1):=List.drop_eq_getElem_cons hlt
   have e2:w.drop i=w[i]::w.drop (i+1):=List.drop_eq_getElem_cons hlw
   have hk:Aj .i64 (Int.sub (Int.ofNat K) 1)=(K:Int) - 1:=Oe _ (by show _≤(K:Int) - 1;omega) (by show (K:Int) - 1≤_;omega)
   rw[Gy hlt]
   simp only[Ak,Cx,Ac,I4,GX,blt_eq,hlt,hlw,decide_true,CF,Bool.true_and,BZ,Nat.mul_one,Aja h i hlt,Aja w i hlw,BP,hk]
   rw[show (0:Int)=Int.ofNat 0 from rfl,show (Value.int IntKind.i64 (Int.ofNat 0))=I 0 from rfl,p52 n 0 (bb (AY w[i] h[i]) w[i] h[i]) ((K:Int) - 1)]
   simp only[Ac,BU]
   rw[e1,e2]
   by_cases c:(0≤h[i]∧h[i] < K)∧(0≤w[i]∧w[i] < K)
   ·have d1 : (decide (0 ≤ bb (AY w[i] h[i]) w[i] h[i]) && decide (bb (AY w[i] h[i]) w[i] h[i] ≤ (K : Int) - 1)) = true := by
     cases hc:AY w[i] h[i] <;> rw[BL] <;> simp only[Bool.and_eq_true,decide_eq_true_iff,if_true,Bool.false_eq_true,if_false] <;> exact⟨by omega,by omega⟩
    have d2:nt (AY (bb (AY h[i] w[i]) w[i] h[i]) (Int.ofNat K))=false:=by
     cases hc:AY h[i] w[i] <;> simp[JY]
     all_goals omega
    rw[d1,d2]
    simp only[Km,Bool.not_true,AA]
    obtain⟨X,hX⟩:∃ X:Nat,h[i]=Int.ofNat X:=⟨h[i].toNat,(Int.toNat_of_nonneg c.1.1).symm⟩
    obtain⟨Y,hY⟩:∃ Y:Nat,w[i]=Int.ofNat Y:=⟨w[i].toNat,(Int.toNat_of_nonneg c.2.1).symm⟩
    rw[hX,hY] at c
    simp only[Int.ofNat_eq_natCast] at c
    have hbq:∀ j,j < 5→-1000≤q.getD j 0∧q.getD j 0≤1000:=fun j hj=>by
     have:=hinv j hj
     have c1:=List.count_le_length (a:=(j:Int)) (l:=h.take i)
     have c2:=List.count_le_length (a:=(j:Int)) (l:=w.take i)
     simp only[List.length_take] at c1 c2
     omega
    rw[hX,hY,Wz _ _ _ X Y i _ _ _ _ _ q hq (by omega) (by omega) (by omega) hbq,ih (i+1) (upd q X Y) (by omega) (by omega) (by rw[Un,hq]) ?_ (RP hlt hih (by rw[hX];simp;omega)) (RP hlw hiw (by rw[hY];simp;omega))]
    ·congr 2
     refine O6 ?_ _ _
     rw[LK,LK]
     refine⟨fun g=>⟨⟨?_,g.1⟩,?_,g.2⟩,fun g=>⟨g.1.2,g.2.2⟩⟩
     ·simp;omega
     ·simp;omega
    ·intro j hj
     rw[Uo q X Y j (by omega) (by omega) (by omega),hinv j hj,K8 hlt,K8 hlw,hX,hY]
     have t1:(Int.ofNat X=(j:Int))↔j=X:=by simp;omega
     have t2:(Int.ofNat Y=(j:Int))↔j=Y:=by simp;omega
     simp only[t1,t2]
     split <;> split <;> simp <;> omega
   ·rw[Jd (by rw[LK,LK];exact fun g=>c ⟨g.1.1,g.2.1⟩)]
    by_cases d1:(decide (0≤bb (AY w[i] h[i]) w[i] h[i]) && decide (bb (AY w[i] h[i]) w[i] h[i]≤(K:Int) - 1))=true
    ·have d2 : nt (AY (bb (AY h[i] w[i]) w[i] h[i]) (Int.ofNat K)) = true := by
      cases hc:AY w[i] h[i] <;> rw[hc] at d1 <;> cases hc2:AY h[i] w[i] <;> rw[JY] at hc hc2 <;> simp only[Ak,AA,Bool.and_eq_true,decide_eq_true_iff,decide_eq_false_iff_not] at d1 hc hc2 <;> obtain⟨d1,d3⟩:=d1 <;> have d1:=of_decide_eq_true d1 <;> have d3:=of_decide_eq_true d3 <;> simp[JY] <;> omega
     rw[d1,d2];rfl
    ·rw[Bool.not_eq_true] at d1
     rw[d1];rfl
  ·have:i=h.length:=by omega
   subst this
   rw[G9 hlt,AA,X0 _ _ _ hq]
   rw[I9 (p:=L6 _ _∧L6 _ _) (by rw[List.drop_of_length_le (Nat.le_refl _),List.drop_of_length_le (by omega)];simp[L6])]
   rw[List.take_length] at hih hinv
   rw[←hw,List.take_length] at hiw hinv
   congr 2
   refine O6 ⟨fun g x hx=>?_,fun g j hj=>?_⟩ _ _
   ·have h1:=hinv x (by omega)
    have h2:=g x (by omega)
    rw[List.getD_eq_getElem?_getD,List.getElem?_eq_getElem (by omega),Option.getD_some,h2] at h1
    omega
   ·have h1:=hinv j (by omega)
    rw[List.getD_eq_getElem?_getD,List.getElem?_eq_getElem hj,Option.getD_some] at h1
    rw[h1]
    by_cases hx:j < K
    ·rw[g j hx];omega
    ·rw[O7 hih (by omega:(K:Int)≤(j:Int)),O7 hiw (by omega:(K:Int)≤(j:Int))];rfl

theorem p47 (n fl fl':Nat) (k:Int) (h w:List Int):Eb (n+2) 47 [tr fl fl' k h w]=some (I (chk k h w)):=by
 refine Eq.trans (b := oo (Eb (n + 1) 52 [I 1, I k, I 5]) none (fun v => oo (Bf v) none fun b => bb (nt b) (some (I 1)) (bb (Bd (Int.ofNat h.length) 0) (some (I 4)) (bb (AY 10 (Int.ofNat h.length)) (some (I 3)) (bb (nt (Bd (Int.ofNat w.length) (Int.ofNat h.length))) (some (I 5))
  (OD (Eb (n+1)) 1000000 1000000 (sl fl h) (Int.ofNat h.length) (Int.ofNat 0) k (sl fl h) (sl fl' w) (([0,0,0,0,0]:List Int).map I))))))) (by kernel_rfl) ?_
 rw[p52]
 simp only[Ac,BU]
 unfold chk
 by_cases hk:1≤k∧k≤5
 ·obtain⟨K,rfl⟩:∃ K:Nat,k=K:=⟨k.toNat,by omega⟩
  have d:(decide ((1:Int)≤K) && decide ((K:Int)≤5))=true:=by simp;omega
  rw[d,I9 hk]
  simp only[Km,Bool.not_true,AA,Lr,JY]
  by_cases h0:h.length=0
  ·rw[I9 h0];simp[h0]
  ·rw[Jd h0]
   have d3:(Int.ofNat h.length == 0)=false:=by simp;exact fun e=>h0 (by rw[e];rfl)
   by_cases h1:10 < h.length
   ·have d2:decide ((10:Int) < Int.ofNat h.length)=true:=by simp;omega
    rw[I9 h1,d2,d3];rfl
   ·have d2:decide ((10:Int) < Int.ofNat h.length)=false:=by simp;omega
    rw[Jd h1,d2,d3]
    simp only[AA]
    by_cases h2:w.length=h.length
    ·have d4:(Int.ofNat w.length == Int.ofNat h.length)=true:=by simp[h2]
     rw[I9 h2,d4]
     simp only[Bool.not_true,AA]
     have:=l47 n 1000000 fl fl' K h w (by omega) h2 (by omega) (by omega) 1000000 0 [0,0,0,0,0] (by omega) (by omega) rfl (by intro j hj;match j,hj with | 0,_=>rfl | 1,_=>rfl | 2,_=>rfl | 3,_=>rfl | 4,_=>rfl | j+5,hj=>omega) (by simp[L6]) (by simp[L6])
     rw[show ((K:Nat):Int)=Int.ofNat K from rfl,this]
     rfl
    ·have d4:(Int.ofNat w.length == Int.ofNat h.length)=false:=by simp;omega
     rw[Jd h2,d4];rfl
 ·have d:(decide ((1:Int)≤k) && decide (k≤5))=false:=by simp;omega
  rw[d,Jd hk];rfl
end Go.MnWM
set_option maxRecDepth 100000
namespace Go.MnWM
open Go.Sp Go.MnW

theorem vW (a b:Int):bb (AY a b) b a=max a b:=by
 by_cases h:a < b
 ·have:AY a b=true:=by simp[JY,h]
  rw[this,Ak];omega
 ·have:AY a b=false:=by simp[JY];omega
  rw[this,AA];omega
theorem yV {x y:Int}:(AY x y=true↔x < y):=by rw[JY,decide_eq_true_iff]
def swp (h:List Int) (A B:Nat):List Int:=(h.set A (h.getD B 0)).set B (h.getD A 0)
theorem iZ {n:Nat} (h:n≤1000):EQ n 8=true:=by
 unfold EQ;rw[ble_eq];simp;omega
end Go.MnWM
set_option maxRecDepth 100000
namespace Go.MnWM
open Go.Sp Go.MnW

def wr:List Int→List Int→Nat→List Int
 | x::h,y::w,i=>if x=y then wr h w (i+1) else (i:Int)::wr h w (i+1)
 | _,_,_=>[]
def bv:List Int→List Int→Nat
 | x::h,y::w=>(if x=y then 0 else 1)+2*bv h w
 | _,_=>0
theorem ZH:∀ (h w:List Int),bv h w < 2 ^ h.length
 | [],w=>by simp[bv]
 | x::h,[]=>by simp[bv];exact Nat.two_pow_pos _
 | x :: h, y :: w => by
  have:=ZH h w
  simp only[bv,List.length_cons,Nat.pow_succ]
  split <;> omega
def bl:Nat→Nat→Nat→List Int
 | 0,_,_=>[]
 | f+1,i,s=>if s % 2=1 then (i:Int)::bl f (i+1) (s / 2) else bl f (i+1) (s / 2)
noncomputable def zC (o:Option Value) (l:List Int):Bool:=oo o false fun v=>oo (Bj 1 v) false fun s=>an (Nat.beq s.n (len l)) (an (Nat.beq s.fl 0) (FE s.cs (AP I l)))
theorem jA {o:Option Value} {l:List Int} (h:zC o l=true):o=some (S 0 l):=by
 unfold zC at h
 cases o with
 | none=>cases h
 | some v =>
  rw[Ac] at h
  cases hs:Bj 1 v with
  | none=>rw[hs] at h;cases h
  | some s =>
   rw[hs,Ac] at h
   obtain⟨h1,h2⟩:=Av h
   obtain⟨h3,h4⟩:=Av h2
   have g1:s.n=len l:=Nat.eq_of_beq_eq_true h1
   have g2:s.fl=0:=Nat.eq_of_beq_eq_true h3
   have g3:s.cs=AP I l:=LB h4
   rw[Qh hs]
   have:s=sl 0 l:=by
    cases s
    rw[AV] at g1
    rw[Hl] at g3
    simp only at g1 g2 g3
    rw[g1,g2,g3];rfl
   rw[this];rfl
theorem vX (n:Nat):NL (fun s=>zC (Eb (n+2) 62 [.int .u16 (Int.ofNat s)]) (bl 10 0 s)) 1024=true:=by kernel_rfl
theorem p62 (n s:Nat) (hs:s < 1024):Eb (n+2) 62 [.int .u16 (Int.ofNat s)]=some (S 0 (bl 10 0 s)):=jA (Rp (vX n) s hs)

theorem jC (Z i:Nat) (hZ:Z < 2 ^ i) (hi:i < 10):jF .u16 (Int.ofNat Z) (QW .u16 1 i)=Int.ofNat (Z+2 ^ i):=by
 have e1:QW .u16 1 i=Int.ofNat (2 ^ i):=by
  match i,hi with
  | 0,_=>rfl | 1,_=>rfl | 2,_=>rfl | 3,_=>rfl | 4,_=>rfl | 5,_=>rfl | 6,_=>rfl | 7,_=>rfl | 8,_=>rfl | 9,_=>rfl
  | i+10,h=>omega
 rw[e1]
 have h2:2 ^ i≤2 ^ 9:=Nat.pow_le_pow_right (by omega) (by omega)
 have e2:Nl .u16 Z (2 ^ i)=true:=by
  unfold Nl
  have:GA .u16=65535:=rfl
  rw[this,ble_eq,ble_eq];simp;omega
 show bb (Nl .u16 Z (2 ^ i)) (Int.ofNat (Nat.lor Z (2 ^ i))) _=_
 rw[e2,Ak]
 have:=Nat.two_pow_add_eq_or_of_lt hZ 1
 rw[Nat.mul_one] at this
 have h3:Nat.lor Z (2 ^ i)=2 ^ i ||| Z:=Nat.or_comm Z (2 ^ i)
 rw[h3,←this];congr 1;omega

theorem l51 (pu:Af) (n fl fl':Nat) (k:Int) (h w:List Int) (hh:h.length≤10) (hw:w.length=h.length):∀ (f i Z:Nat),h.length - i < f→i≤h.length→Z < 2 ^ i →
 OE pu n f (Int.ofNat Z) (sl fl h) (Int.ofNat h.length) (Int.ofNat i) k (sl fl h) (sl fl' w)=some (.int .u16 (Int.ofNat (Z+2 ^ i*bv (h.drop i) (w.drop i)))):=by
 intro f
 induction f with
 | zero=>intro i Z hi;omega
 | succ f ih =>
  intro i Z hi hil hZ
  show QM pu n (OE pu n f) _ _ _ _ _ _ _=_
  unfold QM
  by_cases hlt:i < h.length
  ·have hlw:i < w.length:=by omega
   have e1:h.drop i=h[i]::h.drop (i+1):=List.drop_eq_getElem_cons hlt
   have e2:w.drop i=w[i]::w.drop (i+1):=List.drop_eq_getElem_cons hlw
   rw[Gy hlt]
   simp only[Ak,Cx,Ac,I4,GX,blt_eq,hlt,hlw,decide_true,CF,Bool.true_and,BZ,Nat.mul_one,Aja h i hlt,Aja w i hlw,BP,QL,DC i (by omega:i < 1000000),jC Z i hZ (by omega)]
   rw[e1,e2]
   have hp:2 ^ (i+1)=2*2 ^ i:=by rw[Nat.pow_succ];omega
   by_cases hx:h[i]=w[i]
   ·have:nt (Bd h[i] w[i])=false:=by simp[Lr,hx]
    rw[this,AA,ih (i+1) Z (by omega) (by omega) (by omega)]
    simp only[bv,if_pos hx]
    congr 3
    rw[hp,Nat.zero_add,Nat.mul_comm 2 (2 ^ i),Nat.mul_assoc]
   ·have:nt (Bd h[i] w[i])=true:=by simp[Lr,hx]
    rw[this,Ak,ih (i+1) (Z+2 ^ i) (by omega) (by omega) (by omega)]
    simp only[bv,if_neg hx]
    congr 3
    rw[hp,Nat.mul_add,Nat.mul_one,Nat.mul_comm 2 (2 ^ i),Nat.mul_assoc];omega
  ·have:i=h.length:=by omega
   subst this
   rw[G9 hlt,AA,List.drop_of_length_le (Nat.le_refl _)]
   simp[bv,QK]
theorem p51 (n fl fl':Nat) (k:Int) (h w:List Int) (hh:h.length≤10) (hw:w.length=h.length):Eb (n+1) 51 [tr fl fl' k h w]=some (.int .u16 (Int.ofNat (bv h w))):=by
 refine Eq.trans (b:=OE (Eb n) 1000000 1000000 (Int.ofNat 0) (sl fl h) (Int.ofNat h.length) (Int.ofNat 0) k (sl fl h) (sl fl' w)) (by kernel_rfl) ?_
 rw[l51 (Eb n) 1000000 fl fl' k h w hh hw 1000000 0 0 (by omega) (by omega) (by simp)]
 simp

end Go.MnWM
namespace Go.MdM
section
variable (N:Nat) (H W:Nat→Int)
abbrev Bn:=Nat→Bool
def els (S:Bn):List Nat:=(List.range N).filter S
def cn (S:Bn) (f:Nat→Int) (x:Int):Nat:=(List.range N).countP (fun i=>S i && f i == x)
def card (S:Bn):Nat:=(List.range N).countP S
def Bp (S:Bn):Prop:=∀ x,cn N S H x=cn N S W x
def del (S:Bn) (i:Nat):Bn:=fun j=>S j && !(j == i)
def rem (S:Bn) (l:List Nat):Bn:=fun j=>S j && !(l.contains j)
def mx (l:List Nat):Nat:=l.foldl max 0
noncomputable def one (p:Prop):Nat:=@ite _ p (Classical.propDecidable p) 1 0
noncomputable def Bq:Nat→Bn→Nat
 | 0,_=>0
 | k+1,S=>mx ((els N S).map fun i=>Bq k (del S i))+one (Bp N H W S)
noncomputable def M (S:Bn):Nat:=Bq N H W (card N S) S
end
variable {N:Nat} {H W:Nat→Int}
theorem RQ {p:Prop} (h:p):one p=1:=if_pos h
theorem RS {p:Prop} (h:¬ p):one p=0:=if_neg h
theorem SA (p:Prop):one p≤1:=by by_cases h:p;rw[RQ h];exact Nat.le_refl _;rw[RS h];exact Nat.zero_le _
theorem Fb {S:Bn} {i:Nat}:i∈els N S↔i < N∧S i=true:=by simp[els]
theorem X3 (l:List Nat) (a:Nat):l.foldl max a=max a (mx l):=by
 unfold mx
 induction l generalizing a with
 | nil=>simp
 | cons b l ih=>simp only[List.foldl_cons];rw[ih,ih (max 0 b)];omega
theorem PO (a:Nat) (l:List Nat):mx (a::l)=max a (mx l):=by
 show List.foldl max (max 0 a) l=_
 rw[X3];omega
theorem ZI {l:List Nat} {b:Nat} (h:∀ a∈l,a≤b):mx l≤b:=by
 induction l with
 | nil=>exact Nat.zero_le _
 | cons a l ih =>
  rw[PO]
  have:=h a (by simp)
  have:=ih (fun x hx=>h x (by simp[hx]))
  omega
theorem Uq {l:List Nat} {a:Nat} (h:a∈l):a≤mx l:=by
 induction l with
 | nil=>cases h
 | cons b l ih =>
  rw[PO]
  rcases List.mem_cons.1 h with rfl | h
  ·omega
  ·have:=ih h;omega
theorem PP {l:List Nat} (h:mx l≠0):mx l∈l:=by
 induction l with
 | nil=>exact absurd rfl h
 | cons b l ih =>
  rw[PO] at h ⊢
  by_cases hb:mx l≤b
  ·rw[show max b (mx l)=b by omega];simp
  ·have:=ih (by omega)
   rw[show max b (mx l)=mx l by omega];simp[this]
theorem countP_split {l:List Nat} {p q r:Nat→Bool} (h:∀ i∈l,p i=(q i || r i)) (hd:∀ i∈l,¬ (q i=true∧r i=true)):l.countP p=l.countP q+l.countP r:=by
 induction l with
 | nil=>rfl
 | cons a l ih =>
  have h1:=h a (by simp)
  have h2:=hd a (by simp)
  have:=ih (fun i hi=>h i (by simp[hi])) (fun i hi=>hd i (by simp[hi]))
  simp only[List.countP_cons,this]
  cases hq:q a <;> cases hr:r a <;> simp[hq,hr] at h1 h2 <;> simp[h1] <;> omega
theorem Jb {S A B:Bn} (f:Nat→Int) (x:Int) (h:∀ i,i < N→S i=(A i || B i)) (hd:∀ i,i < N→¬ (A i=true∧B i=true)):cn N S f x=cn N A f x+cn N B f x:=by
 unfold cn
 apply countP_split
 ·intro i hi
  rw[h i (by simpa using hi)]
  cases A i <;> cases B i <;> simp
 ·intro i hi hc
  exact hd i (by simpa using hi) (by simp at hc;exact⟨hc.1.1,hc.2.1⟩)
theorem OM {S A B:Bn} (h:∀ i,i < N→S i=(A i || B i)) (hd:∀ i,i < N→¬ (A i=true∧B i=true)):card N S=card N A+card N B:=by
 unfold card
 apply countP_split
 ·intro i hi;exact h i (by simpa using hi)
 ·intro i hi;exact hd i (by simpa using hi)
theorem OO (N i:Nat) (h:i < N) (p:Nat→Bool):(List.range N).countP (fun j=>(j == i) && p j)=if p i then 1 else 0:=by
 induction N with
 | zero=>omega
 | succ n ih =>
  rw[List.range_succ,List.countP_append]
  by_cases hi:i < n
  ·rw[ih hi]
   have:(n == i)=false:=by simp;omega
   simp[this]
  ·have:i=n:=by omega
   subst this
   have:(List.range i).countP (fun j=>(j == i) && p j)=0:=by
    rw[List.countP_eq_zero];intro a ha;simp at ha;simp;intro h;omega
   rw[this];simp
theorem Gn {S:Bn} {i:Nat} (hi:i < N) (hs:S i=true) (f:Nat→Int) (x:Int):cn N S f x=cn N (del S i) f x+if f i=x then 1 else 0:=by
 rw[Jb (A:=del S i) (B:=fun j=>j == i) f x]
 ·unfold cn
  rw[OO N i hi (fun j=>f j == x)]
  by_cases e:f i=x <;> simp[e]
 ·intro j hj;unfold del;by_cases h:j=i
  ·subst h;simp[hs]
  ·simp only[beq_eq_false_iff_ne.2 h,Bool.not_false,Bool.and_true,Bool.or_false]
 ·intro j hj;simp[del]
theorem FN {S:Bn} {i:Nat} (hi:i < N) (hs:S i=true):card N S=card N (del S i)+1:=by
 rw[OM (A:=del S i) (B:=fun j=>j == i)]
 ·congr 1;unfold card
  have:=OO N i hi (fun j=>true)
  simpa using this
 ·intro j hj;unfold del;by_cases h:j=i
  ·subst h;simp[hs]
  ·simp only[beq_eq_false_iff_ne.2 h,Bool.not_false,Bool.and_true,Bool.or_false]
 ·intro j hj;simp[del]
theorem Gs {S:Bn} (h:card N S=0):∀ i,i < N→S i=false:=by
 intro i hi
 unfold card at h
 rw[List.countP_eq_zero] at h
 simpa using h i (by simpa using hi)
theorem KX {S:Bn} {i:Nat} (hi:i < N) (hs:S i=true):0 < card N S:=by
 have:=FN hi hs;omega
theorem Gu (S:Bn):(els N S).length=card N S:=by unfold els card;rw[List.countP_eq_length_filter]

theorem PQ (S:Bn) (h:card N S≠0):M N H W S=mx ((els N S).map fun i=>M N H W (del S i))+one (Bp N H W S):=by
 obtain⟨k,hk⟩:=Nat.exists_eq_succ_of_ne_zero h
 unfold M
 rw[hk]
 show mx ((els N S).map fun i=>Bq N H W k (del S i))+_=_
 congr 2
 apply List.map_congr_left
 intro i hi
 have:=Fb.1 hi
 have:=FN this.1 this.2
 rw[show card N (del S i)=k by omega]
theorem Hw {S:Bn} (h:card N S=0):M N H W S=0:=by unfold M;rw[h];rfl
theorem ZJ {S:Bn} {i:Nat} (hi:i < N) (hs:S i=true):M N H W (del S i)≤M N H W S:=by
 rw[PQ S (by have:=KX hi hs;omega)]
 have:=Uq (List.mem_map.2 ⟨i,Fb.2 ⟨hi,hs⟩,rfl⟩:M N H W (del S i)∈(els N S).map fun i=>M N H W (del S i))
 omega
theorem WA {S:Bn} {i:Nat} (hi:i < N) (hs:S i=true) (he:Bp N H W S):M N H W (del S i)+1≤M N H W S:=by
 rw[PQ S (by have:=KX hi hs;omega),RQ he]
 have:=Uq (List.mem_map.2 ⟨i,Fb.2 ⟨hi,hs⟩,rfl⟩:M N H W (del S i)∈(els N S).map fun i=>M N H W (del S i))
 omega
def MR (N:Nat) (A B:Bn):Prop:=∀ i,i < N→A i=true→B i=true
theorem O8 {A B:Bn} (h:∀ i,i < N→A i=B i):els N A=els N B:=by
 unfold els;apply List.filter_congr;intro i hi;exact h i (by simpa using hi)
theorem Gq {A B:Bn} (h:∀ i,i < N→A i=B i):card N A=card N B:=by rw[←Gu,←Gu,O8 h]
theorem LM {A B:Bn} (h:∀ i,i < N→A i=B i) (f:Nat→Int) (x:Int):cn N A f x=cn N B f x:=by
 unfold cn;apply List.countP_congr;intro i hi;rw[h i (by simpa using hi)]
theorem WB {A B:Bn} (h:∀ i,i < N→A i=B i):Bp N H W A↔Bp N H W B:=by
 unfold Bp;constructor <;> intro g x
 ·rw[←LM h,←LM h];exact g x
 ·rw[LM h,LM h];exact g x
theorem UM {A B:Bn} (h:∀ i,i < N→A i=B i) (k:Nat):∀ i,i < N→del A k i=del B k i:=by intro i hi;unfold del;rw[h i hi]
theorem RU:∀ (k:Nat) {A B:Bn},(∀ i,i < N→A i=B i)→Bq N H W k A=Bq N H W k B
 | 0,_,_,_=>rfl
 | k + 1, A, B, h => by
  unfold Bq
  rw[O8 h,show one (Bp N H W A)=one (Bp N H W B) by rw[propext (WB h)]]
  congr 2
  apply List.map_congr_left
  intro i hi
  exact RU k (UM h i)
theorem K6 {A B:Bn} (h:∀ i,i < N→A i=B i):M N H W A=M N H W B:=by unfold M;rw[Gq h];exact RU _ h
theorem MR.card {A B:Bn} (h:MR N A B):card N B=card N A+card N (fun i=>B i && !A i):=by
 apply OM
 ·intro i hi;have:=h i hi;cases hA:A i <;> cases hB:B i <;> simp_all
 ·intro i hi;simp;intro h1 _;exact h1
theorem MR.eq {A B:Bn} (h:MR N A B) (hc:Go.MdM.card N B≤Go.MdM.card N A):∀ i,i < N→A i=B i:=by
 have:=h.card
 have h0:=Gs (show Go.MdM.card N (fun i=>B i && !A i)=0 by omega)
 intro i hi
 have:=h0 i hi;have:=h i hi
 cases hA:A i <;> cases hB:B i <;> simp_all
theorem MR.ex {A B:Bn} (h:MR N A B) (hc:Go.MdM.card N A < Go.MdM.card N B):∃ i,i < N∧B i=true∧A i=false:=by
 apply Classical.byContradiction
 intro hn
 have:Go.MdM.card N B=Go.MdM.card N A:=Gq (fun i hi=>by
  have:=h i hi
  cases hA:A i <;> cases hB:B i <;> simp_all)
 omega
theorem jD:∀ (d:Nat) {A B:Bn},MR N A B→card N B≤card N A+d→M N H W A≤M N H W B:=by
 intro d
 induction d with
 | zero=>intro A B h hc;rw[K6 (h.eq (by omega))];exact Nat.le_refl _
 | succ d ih =>
  intro A B h hc
  by_cases hl:card N A < card N B
  ·obtain⟨i,hi,hb,ha⟩:=h.ex hl
   have:=FN hi hb
   have h2:MR N A (del B i):=by
    intro j hj hA;unfold del
    have:=h j hj hA
    by_cases e:j=i
    ·subst e;rw[hA] at ha;cases ha
    ·simp[this,e]
   exact Nat.le_trans (ih h2 (by omega)) (ZJ hi hb)
  ·exact ih h (by omega)
theorem MR.M {A B:Bn} (h:MR N A B):M N H W A≤M N H W B:=jD (Go.MdM.card N B) h (by omega)
theorem MF {A B:Bn} {i:Nat} (h:MR N A B) (hi:i < N) (hb:B i=true) (ha:A i=false) (he:Bp N H W B):M N H W A+1≤M N H W B:=by
 have h2:MR N A (del B i):=by
  intro j hj hA;unfold del
  have:=h j hj hA
  by_cases e:j=i
  ·subst e;rw[hA] at ha;cases ha
  ·simp[this,e]
 exact Nat.le_trans (Nat.succ_le_succ h2.M) (WA hi hb he)
theorem Qp {A B:Bn} (h:MR N A B) (ha:Bp N H W A) (hb:Bp N H W B):Bp N H W (fun i=>B i && !A i):=by
 intro x
 have s:∀ f:Nat→Int,cn N B f x=cn N A f x+cn N (fun i=>B i && !A i) f x:=by
  intro f
  apply Jb
  ·intro i hi;have:=h i hi;cases hA:A i <;> cases hB:B i <;> simp_all
  ·intro i hi;simp;intro h1 _;exact h1
 have:=s H;have:=s W;have:=ha x;have:=hb x
 omega
theorem zD:∀ (k:Nat) (S:Bn),card N S≤k→∃ T,MR N T S∧Bp N H W T∧M N H W T=M N H W S:=by
 intro k
 induction k with
 | zero =>
  intro S h
  have h0:=Gs (show card N S=0 by omega)
  refine⟨S,fun _ _ h=>h,?_,rfl⟩
  intro x
  have:∀ f,cn N S f x=0:=by
   intro f;unfold cn;rw[List.countP_eq_zero];intro i hi;rw[h0 i (by simpa using hi)];simp
  rw[this,this]
 | succ k ih =>
  intro S h
  by_cases he:Bp N H W S
  ·exact⟨S,fun _ _ h=>h,he,rfl⟩
  ·by_cases hz:card N S=0
   ·exact ih S (by omega)
   have hM:=PQ (H:=H) (W:=W) S hz
   rw[RS he,Nat.add_zero] at hM
   by_cases h0:mx ((els N S).map fun i=>M N H W (del S i))=0
   ·rw[h0] at hM
    refine⟨fun _=>false,fun i _ h=>(by cases h),fun x=>by simp[cn],?_⟩
    rw[hM];exact Hw (by simp[card])
   ·obtain⟨i,hi,hm⟩:=List.mem_map.1 (PP h0)
    obtain⟨hi,hs⟩:=Fb.1 hi
    have:=FN hi hs
    obtain⟨T,hT,hE,e⟩:=ih (del S i) (by omega)
    refine⟨T,fun j hj h=>?_,hE,by rw[e,hM,←hm]⟩
    have:=hT j hj h
    unfold del at this
    simp at this;exact this.1
end Go.MdM
namespace Go.MdM
section
variable (N:Nat) (H W:Nat→Int)
def BB (Q:Bn→Prop) (f:Nat):Bn→Nat→List Nat→Prop
 | R,last,[]=>W last=H f∧Q R
 | R,last,i::e=>i < N∧R i=true∧H i=W last∧BB Q f (del R i) i e
def zF:List Nat→List Nat→Prop
 | [],_::_=>True
 | a::x,b::y=>a < b∨(a=b∧zF x y)
 | _,[]=>False
noncomputable def X4 (Q:Bn→Prop) (f:Nat):Nat→Bn→Nat→Option (List Nat)
 | 0,_,_=>none
 | k+1,R,last=>@ite _ (W last=H f∧Q R) (Classical.propDecidable _) (some []) ((els N R).findSome? fun i=>if H i=W last then (X4 Q f k (del R i) i).map (i :: ·) else none)
def BI:Bn→List (List Nat)→Prop
 | S,[]=>∀ i,i < N→S i=false
 | S,r::L=>∃ f e,r=f::e∧(f < N∧S f=true∧∀ j,j < f→S j=false)∧BB N H W (fun _=>True) f (del S f) f e∧BI (rem S r) L
def Qs (S:Bn):Bn→Prop:=fun R=>Bp N H W R∧M N H W R+1=M N H W S
noncomputable def gr:Nat→Bn→List (List Nat)
 | 0,_=>[]
 | k + 1, S => match els N S with
  | []=>[]
  | f::_=>(f::(X4 N H W (Qs N H W S) f (card N S+1) (del S f) f).getD [])::gr k (rem S (f::(X4 N H W (Qs N H W S) f (card N S+1) (del S f) f).getD []))
def xN:List (List Nat)→List (List Nat)→Prop
 | a::x,b::y=>zF a b∨(a=b∧xN x y)
 | _,_=>False
end
variable {N:Nat} {H W:Nat→Int}
theorem X5 (R:Bn):rem R []=R:=by funext j;simp[rem]
theorem LQ (R:Bn) (i:Nat) (e:List Nat):rem R (i::e)=rem (del R i) e:=by
 funext j;simp only[rem,del,List.contains_cons]
 cases R j <;> cases j == i <;> cases e.contains j <;> rfl
theorem Qq {Q : Bn → Prop} {f : Nat} : ∀ (e : List Nat) (R : Bn) (last : Nat), BB N H W Q f R last e ↔ BB N H W (fun _ => True) f R last e ∧ Q (rem R e)
 | [],R,last=>by rw[X5];simp[BB]
 | i :: e, R, last => by
  rw[LQ]
  have:=Qq (Q:=Q) (f:=f) e (del R i) i
  simp only[BB,this,and_assoc]
theorem Qt {Q Q':Bn→Prop} {f:Nat} {D:Bn}:∀ (e:List Nat) (R R':Bn) (last:Nat),(∀ i,i < N→R' i=(R i || D i))→(∀ i,i < N→¬ (R i=true∧D i=true)) →
 (∀ X X':Bn,MR N X R→(∀ i,i < N→X' i=(X i || D i))→(∀ i,i < N→¬ (X i=true∧D i=true))→Q X→Q' X')→BB N H W Q f R last e→BB N H W Q' f R' last e
 | [],R,R',last,h1,h2,h3,hr=>⟨hr.1,h3 R R' (fun _ _ h=>h) h1 h2 hr.2⟩
 | i :: e, R, R', last, h1, h2, h3, hr => by
  obtain⟨g1,g2,g3,g4⟩:=hr
  refine⟨g1,by rw[h1 i g1,g2];rfl,g3,Qt (D:=D) e (del R i) (del R' i) i ?_ ?_ ?_ g4⟩
  ·intro j hj;unfold del;rw[h1 j hj]
   have:=h2 i g1
   by_cases e:j=i
   ·subst e;rw[g2] at this;simp at this;simp[this]
   ·simp only[beq_eq_false_iff_ne.2 e,Bool.not_false,Bool.and_true]
  ·intro j hj hc;unfold del at hc;simp at hc;exact h2 j hj ⟨hc.1.1,hc.2⟩
  ·intro X X' hs;exact h3 X X' (fun j hj h=>by have:=hs j hj h;unfold del at this;simp at this;exact this.1)
theorem WC {f:Nat}:∀ (e:List Nat) (R:Bn) (last:Nat),BB N H W (Bp N H W) f R last e→∀ x,cn N R H x+(if H f=x then 1 else 0)=cn N R W x+(if W last=x then 1 else 0)
 | [],R,last,hr,x=>by rw[hr.1,hr.2 x]
 | i :: e, R, last, hr, x => by
  obtain⟨g1,g2,g3,g4⟩:=hr
  have:=WC e _ _ g4 x
  rw[Gn g1 g2 H x,Gn g1 g2 W x,g3]
  omega
theorem X6 {f:Nat}:∀ (k:Nat) (R:Bn) (last:Nat),card N R≤k→(∀ x,cn N R H x+(if H f=x then 1 else 0)=cn N R W x+(if W last=x then 1 else 0))→∃ e,BB N H W (Bp N H W) f R last e:=by
 intro k
 induction k with
 | zero =>
  intro R last hk hb
  have h0:=Gs (show card N R=0 by omega)
  have hc:∀ (g:Nat→Int) x,cn N R g x=0:=by
   intro g x;unfold cn;rw[List.countP_eq_zero];intro i hi;rw[h0 i (by simpa using hi)];simp
  refine⟨[],?_,fun x=>by rw[hc,hc]⟩
  have:=hb (W last)
  rw[hc,hc] at this
  by_cases h:H f=W last
  ·exact h.symm
  ·simp[h] at this
 | succ k ih =>
  intro R last hk hb
  by_cases h:W last=H f
  ·refine⟨[],h,fun x=>?_⟩
   have:=hb x
   rw[h] at this;omega
  ·have:=hb (W last)
   simp only[if_true,Ne.symm h,if_false] at this
   have hp:0 < cn N R H (W last):=by omega
   unfold cn at hp
   rw[List.countP_pos_iff] at hp
   obtain⟨i,hi,hp⟩:=hp
   have hi:i < N:=by simpa using hi
   simp at hp
   obtain⟨hr,hh⟩:=hp
   have:=FN hi hr
   obtain ⟨e, he⟩ := ih (del R i) i (by omega) (by
    intro x
    have:=hb x
    rw[Gn hi hr H x,Gn hi hr W x,hh] at this
    omega)
   exact⟨i::e,hi,hr,hh,he⟩
theorem RX {A B S:Bn} (h:∀ i,i < N→S i=(A i || B i)) (hd:∀ i,i < N→¬ (A i=true∧B i=true)) (ha:Bp N H W A) (hb:Bp N H W B):Bp N H W S:=by
 intro x;rw[Jb H x h hd,Jb W x h hd,ha x,hb x]
theorem UN:∀ (k:Nat) (S:Bn) (f:Nat),card N S≤k→Bp N H W S→f < N→S f=true→∃ e,BB N H W (Qs N H W S) f (del S f) f e:=by
 intro k
 induction k with
 | zero=>intro S f hk he hf hs;have:=KX hf hs;omega
 | succ k ih =>
  intro S f hk he hf hs
  have hM:=PQ (H:=H) (W:=W) S (Nat.ne_of_gt (KX hf hs))
  rw[RQ he] at hM
  have hi:∃ i,i < N∧S i=true∧M N H W (del S i)+1=M N H W S:=by
   by_cases h0:mx ((els N S).map fun i=>M N H W (del S i))=0
   ·refine⟨f,hf,hs,?_⟩
    have:=Uq (List.mem_map.2 ⟨f,Fb.2 ⟨hf,hs⟩,rfl⟩:M N H W (del S f)∈(els N S).map fun i=>M N H W (del S i))
    omega
   ·obtain⟨i,hi,hm⟩:=List.mem_map.1 (PP h0)
    obtain⟨hi,hs⟩:=Fb.1 hi
    exact⟨i,hi,hs,by rw[hM,←hm]⟩
  obtain⟨i,hi,hsi,hMi⟩:=hi
  obtain⟨T,hT,hTe,hTM⟩:=zD (H:=H) (W:=W) (card N (del S i)) (del S i) (Nat.le_refl _)
  have hTi:T i=false:=by
   cases h:T i
   ·rfl
   ·have:=hT i hi h;simp[del] at this
  have hTS:MR N T S:=by intro j hj h;have:=hT j hj h;simp[del] at this;exact this.1
  have huni:∀ j,j < N→S j=(T j || (S j && !T j)):=by
   intro j hj;have:=hTS j hj;cases h1:T j <;> cases h2:S j <;> simp_all
  have hdis:∀ j,j < N→¬ (T j=true∧(S j && !T j)=true):=by intro j _ h;simp at h;simp[h.1] at h
  have hUe:Bp N H W (fun j=>S j && !T j):=Qp hTS hTe he
  by_cases hf2:T f=true
  ·have hc:card N S=card N T+card N (fun j=>S j && !T j):=hTS.card
   have:0 < card N (fun j=>S j && !T j):=KX hi (by simp[hsi,hTi])
   obtain⟨e,hr⟩:=ih T f (by omega) hTe hf hf2
   refine⟨e,Qt (D:=fun j=>S j && !T j) e (del T f) (del S f) f ?_ ?_ ?_ hr⟩
   ·intro j hj;unfold del;have:=huni j hj
    by_cases e:j=f
    ·subst e;simp[hf2]
    ·simp only[beq_eq_false_iff_ne.2 e,Bool.not_false,Bool.and_true];exact this
   ·intro j hj h;unfold del at h;simp at h;simp[h.1.1] at h
   ·intro X X' hX hu hd hq
    have hX':MR N X X':=by intro j hj h;rw[hu j hj,h];rfl
    have e':=RX hu hd hq.1 hUe
    have hxi:X i=false:=by
     cases h:X i
     ·rfl
     ·have:=hX i hi h;simp[del,hTi] at this
    have m1:=MF hX' hi (by rw[hu i hi];simp[hsi,hTi]) hxi e'
    have m2:=hq.2
    have hfx:X' f=false:=by
     rw[hu f hf]
     cases h:X f
     ·simp[hf2]
     ·have:=hX f hf h;simp[del] at this
    have m3 := MF (A := X') (B := S) (by
     intro j hj h;rw[hu j hj] at h
     cases h1:X j
     ·rw[h1] at h;simp at h;exact h.1
     ·have:=hX j hj h1;simp[del] at this;exact hTS j hj this.1) hf hs hfx he
    exact⟨e',by omega⟩
  ·have hf2:T f=false:=by simpa using hf2
   have hUf:(fun j=>S j && !T j) f=true:=by simp[hs,hf2]
   obtain ⟨e, hr⟩ := X6 (H := H) (W := W) (f := f) (card N (del (fun j => S j && !T j) f)) (del (fun j => S j && !T j) f) f (Nat.le_refl _) (by
    intro x
    have:=hUe x
    rw[Gn hf hUf H x,Gn hf hUf W x] at this
    exact this)
   refine⟨e,Qt (D:=T) e (del (fun j=>S j && !T j) f) (del S f) f ?_ ?_ ?_ hr⟩
   ·intro j hj;unfold del
    have:=hTS j hj
    by_cases e:j=f
    ·subst e;simp[hf2]
    ·simp only[beq_eq_false_iff_ne.2 e,Bool.not_false,Bool.and_true]
     cases h1:T j
     ·simp
     ·rw[this h1];rfl
   ·intro j hj h;unfold del at h;simp at h;simp[h.2] at h
   ·intro X X' hX hu hd hq
    have e':=RX hu hd hq hTe
    have hTX:MR N T X':=by intro j hj h;rw[hu j hj,h];simp
    have m1:=hTX.M (H:=H) (W:=W)
    have hfx:X' f=false:=by
     rw[hu f hf,hf2]
     cases h:X f
     ·rfl
     ·have:=hX f hf h;simp[del] at this
    have m3 := MF (A := X') (B := S) (by
     intro j hj h;rw[hu j hj] at h
     cases h1:X j
     ·rw[h1] at h;exact hTS j hj (by simpa using h)
     ·have:=hX j hj h1;simp[del] at this;exact this.1.1) hf hs hfx he
    exact⟨e',by omega⟩
end Go.MdM
namespace Go.MdM
variable {N:Nat} {H W:Nat→Int}
theorem WE (S:Bn):(els N S).Pairwise (· < ·):=by unfold els;exact List.pairwise_lt_range.filter _
theorem jE {Q:Bn→Prop} {f:Nat}:∀ (k:Nat) (R:Bn) (last:Nat),card N R < k →
 (∀ e,X4 N H W Q f k R last=some e→BB N H W Q f R last e∧∀ e',BB N H W Q f R last e'→e=e'∨zF e e')∧(X4 N H W Q f k R last=none→∀ e',¬ BB N H W Q f R last e'):=by
 intro k
 induction k with
 | zero=>intro R last h;omega
 | succ k ih =>
  intro R last hk
  unfold X4
  by_cases hc:W last=H f∧Q R
  ·rw[if_pos hc]
   refine⟨fun e he=>?_,fun h=>by cases h⟩
   injection he with he;subst he
   refine⟨hc,fun e' _=>?_⟩
   cases e' with
   | nil=>exact .inl rfl
   | cons=>exact .inr trivial
  ·rw[if_neg hc]
   have step:∀ e',BB N H W Q f R last e'→∃ i e2,e'=i::e2∧i∈els N R∧H i=W last∧BB N H W Q f (del R i) i e2:=by
    intro e' he'
    cases e' with
    | nil=>exact absurd he' hc
    | cons i e2=>exact⟨i,e2,rfl,Fb.2 ⟨he'.1,he'.2.1⟩,he'.2.2⟩
   have low:∀ i,i∈els N R→card N (del R i) < k:=by
    intro i hi
    obtain⟨h1,h2⟩:=Fb.1 hi
    have:=FN h1 h2
    omega
   constructor
   ·intro e he
    rw[List.findSome?_eq_some_iff] at he
    obtain⟨l1,i,l2,hl,hi,hn⟩:=he
    have hmem:i∈els N R:=by rw[hl];simp
    by_cases hW:H i=W last
    ·rw[if_pos hW] at hi
     cases hd:X4 N H W Q f k (del R i) i with
     | none=>rw[hd] at hi;cases hi
     | some e1 =>
      rw[hd] at hi;injection hi with hi;subst hi
      obtain⟨a1,a2⟩:=(ih (del R i) i (low i hmem)).1 e1 hd
      have hm:=Fb.1 hmem
      refine⟨⟨hm.1,hm.2,hW,a1⟩,?_⟩
      intro e' he'
      obtain⟨j,e2,rfl,hj,hWj,hr⟩:=step e' he'
      have hp:=WE (N:=N) R
      rw[hl,List.pairwise_append,List.pairwise_cons] at hp
      rw[hl] at hj
      rcases List.mem_append.1 hj with hj | hj
      ·have:=hn j hj
       rw[if_pos hWj,Option.map_eq_none_iff] at this
       exact absurd hr ((ih (del R j) j (low j (by rw[hl];simp[hj]))).2 this e2)
      ·rcases List.mem_cons.1 hj with rfl | hj
       ·rcases a2 e2 hr with rfl | h
        ·exact .inl rfl
        ·exact .inr (.inr ⟨rfl,h⟩)
       ·exact .inr (.inl (hp.2.1.1 j hj))
    ·rw[if_neg hW] at hi;cases hi
   ·intro hn e' he'
    rw[List.findSome?_eq_none_iff] at hn
    obtain⟨j,e2,rfl,hj,hWj,hr⟩:=step e' he'
    have:=hn j hj
    rw[if_pos hWj,Option.map_eq_none_iff] at this
    exact(ih (del R j) j (low j hj)).2 this e2 hr
theorem WF:∀ (L:List (List Nat)) (S:Bn),BI N H W S L→Bp N H W S∧L.length≤M N H W S
 | [], S, h => by
  have hc:∀ (g:Nat→Int) x,cn N S g x=0:=by
   intro g x;unfold cn;rw[List.countP_eq_zero];intro i hi;rw[h i (by simpa using hi)];simp
  exact⟨fun x=>by rw[hc,hc],Nat.zero_le _⟩
 | r :: L, S, h => by
  obtain⟨f,e,rfl,⟨h1,h2,h3⟩,h4,h5⟩:=h
  have ih:=WF L _ h5
  rw[LQ] at ih
  have hr:BB N H W (Bp N H W) f (del S f) f e:=Qq e _ _ |>.2 ⟨h4,ih.1⟩
  have hE:Bp N H W S:=by
   intro x
   have:=WC e _ _ hr x
   rw[Gn h1 h2 H x,Gn h1 h2 W x];exact this
  refine⟨hE,?_⟩
  have:MR N (rem (del S f) e) S:=by intro j hj h;simp[rem,del] at h;exact h.1.1
  have:=MF this h1 h2 (by simp[rem,del]) hE
  have:=ih.2
  simp only[List.length_cons];omega
theorem UO {S:Bn} {f:Nat} {l:List Nat} (h:els N S=f::l):f < N∧S f=true∧∀ j,j < f→S j=false:=by
 have hm:=Fb.1 (show f∈els N S by rw[h];simp)
 refine⟨hm.1,hm.2,fun j hj=>?_⟩
 cases hS:S j
 ·rfl
 ·have:j∈els N S:=Fb.2 ⟨by omega,hS⟩
  have hp:=WE (N:=N) S
  rw[h] at this hp
  rw[List.pairwise_cons] at hp
  rcases List.mem_cons.1 this with rfl | h2
  ·omega
  ·have:=hp.1 j h2;omega
theorem vY:∀ (k:Nat) (S:Bn),card N S≤k→Bp N H W S→BI N H W S (gr N H W k S)∧(gr N H W k S).length=M N H W S ∧
 ∀ L,BI N H W S L→L=gr N H W k S∨L.length < M N H W S∨(L.length=M N H W S∧xN (gr N H W k S) L):=by
 intro k
 induction k with
 | zero =>
  intro S hk hE
  have h0:=Gs (show card N S=0 by omega)
  refine⟨h0,by rw[Hw (by omega)];rfl,?_⟩
  intro L hL
  cases L with
  | nil=>exact .inl rfl
  | cons r L=>obtain⟨f,e,rfl,⟨h1,h2,h3⟩,_⟩:=hL;rw[h0 f h1] at h2;cases h2
 | succ k ih =>
  intro S hk hE
  unfold gr
  cases he:els N S with
  | nil =>
   have hc:card N S=0:=by rw[←Gu,he];rfl
   have h0:=Gs hc
   refine⟨h0,by rw[Hw hc];rfl,?_⟩
   intro L hL
   cases L with
   | nil=>exact .inl rfl
   | cons r L=>obtain⟨f,e,rfl,⟨h1,h2,h3⟩,_⟩:=hL;rw[h0 f h1] at h2;cases h2
  | cons f l =>
   obtain⟨f1,f2,f3⟩:=UO he
   have hcd:=FN f1 f2
   obtain⟨d1,d2⟩:=jE (N:=N) (H:=H) (W:=W) (Q:=Qs N H W S) (f:=f) (card N S+1) (del S f) f (by omega)
   dsimp only
   cases hd:X4 N H W (Qs N H W S) f (card N S+1) (del S f) f with
   | none =>
    obtain⟨e,he⟩:=UN (H:=H) (W:=W) (card N S) S f (Nat.le_refl _) hE f1 f2
    exact absurd he (d2 hd e)
   | some e =>
    obtain⟨g1,g2⟩:=d1 e hd
    obtain⟨g3,g4⟩:=(Qq e _ _).1 g1
    obtain⟨g5,g6⟩:=g4
    simp only[Option.getD_some]
    rw[←LQ] at g5 g6
    have hsub:MR N (rem S (f::e)) (del S f):=by intro j hj h;simp[rem,del] at h ⊢;exact⟨h.1,h.2.1⟩
    have hcl:card N (rem S (f::e))≤k:=by
     have:card N (del S f)=card N (rem S (f::e))+_:=hsub.card
     omega
    obtain⟨i1,i2,i3⟩:=ih (rem S (f::e)) hcl g5
    refine⟨⟨f,e,rfl,⟨f1,f2,f3⟩,g3,i1⟩,by simp only[List.length_cons,i2];exact g6,?_⟩
    intro L hL
    have hle:=(WF L S hL).2
    cases L with
    | nil=>have:=hL f f1;rw[f2] at this;cases this
    | cons r L =>
     by_cases hlen:(r::L).length < M N H W S
     ·exact .inr (.inl hlen)
     have hlen:(r::L).length=M N H W S:=by omega
     obtain⟨f',e',rfl,⟨a1,a2,a3⟩,a4,a5⟩:=hL
     have hff:f'=f:=by
      rcases Nat.lt_trichotomy f f' with h | h | h
      ·rw[a3 f h] at f2;cases f2
      ·exact h.symm
      ·rw[f3 f' h] at a2;cases a2
     subst hff
     obtain⟨b1,b2⟩:=WF L _ a5
     have hq:BB N H W (Qs N H W S) f' (del S f') f' e':=by
      refine(Qq e' _ _).2 ⟨a4,?_⟩
      rw[←LQ]
      refine⟨b1,?_⟩
      have:M N H W (rem S (f'::e'))+1≤M N H W S:=MF (by intro j hj h;simp[rem] at h;exact h.1) f1 f2 (by simp[rem]) hE
      simp only[List.length_cons] at hlen
      omega
     rcases g2 e' hq with rfl | h
     ·simp only[List.length_cons] at hlen
      rcases i3 L a5 with h | h | h
      ·subst h;exact .inl rfl
      ·omega
      ·exact .inr (.inr ⟨hlen,.inr ⟨rfl,h.2⟩⟩)
     ·exact .inr (.inr ⟨hlen,.inl (.inr ⟨rfl,h⟩)⟩)
end Go.MdM
namespace Go.MdM
section
def zG (s:Nat→Nat):Nat→List Nat→Nat→List Nat
 | 0,ring,_=>ring
 | k+1,ring,z=>bif ring.contains z then ring else zG s k (ring++[z]) (s z)
def nl (s:Nat→Nat) (k:Nat):List Nat→List Nat→List (List Nat)
 | [],_=>[]
 | p::ps,met=>bif met.contains p then nl s k ps met else zG s k [] p::nl s k ps (met++zG s k [] p)
end
variable {N:Nat} {H W:Nat→Int}
end Go.MdM
namespace Go.MdM
def nx (f:Nat):Nat→List Nat→Nat→Nat
 | _,[],_=>f
 | last,i::e,j=>bif j == last then i else nx f i e j
variable {N:Nat} {H W:Nat→Int}
end Go.MdM
set_option maxRecDepth 100000
namespace Go.MnWM
open Go.Sp Go.MnW Go.MdM

abbrev tb (s:Nat):Bn:=s.testBit
def eL (s:Nat):List Int:=(els 10 (tb s)).map Int.ofNat
noncomputable def X7 (o:Option Value) (z:Int):Bool:=oo o false fun v=>oo (Bi .i64 v) false fun x=>Bd x z
theorem Uw {o:Option Value} {z:Int} (h:X7 o z=true):o=some (I z):=by
 unfold X7 at h
 cases o with
 | none=>cases h
 | some v =>
  rw[Ac] at h
  cases hs:Bi .i64 v with
  | none=>rw[hs] at h;cases h
  | some x =>
   rw[hs,Ac,Lr] at h
   rw[Eh hs,eq_of_beq h]
noncomputable def bqn (a b:Bool):Bool:=bb a b (nt b)
theorem X9 {a b:Bool}:bqn a b=true→a=b:=by cases a <;> cases b <;> intro h <;> first | rfl | cases h
theorem jJ:NL (fun s=>NL (fun i=>bqn (Bd (Np .u16 (G6 .u16 (Int.ofNat s) i) 1) 1) (s.testBit i)) 10) 1024=true:=by kernel_rfl
theorem p53 (n s i:Nat) (hs:s < 1024) (hi:i < 10):Eb (n+1) 53 [.int .u16 (Int.ofNat s),I (Int.ofNat i)]=some (.bool (s.testBit i)):=by
 refine Eq.trans (b:=XR (Eb n) 1000000 (Int.ofNat s) (Int.ofNat i)) (by kernel_rfl) ?_
 unfold XR
 rw[Cx,Ac,X9 (Rp (Rp jJ s hs) i hi)]
def vZ (s:Nat):Bool:=decide (bl 10 0 s=eL s)
theorem Ya:NL vZ 1024=true:=by kernel_rfl
theorem wB (s:Nat) (hs:s < 1024):bl 10 0 s=eL s:=of_decide_eq_true (Rp Ya s hs)
theorem Yb (pu:Af):NL (fun s=>X7 (XT pu 1000000 (Int.ofNat s)) (Int.ofNat (card 10 (tb s)))) 1024=true:=by kernel_rfl
theorem p64 (n s:Nat) (hs:s < 1024):Eb (n+1) 64 [.int .u16 (Int.ofNat s)]=some (I (Int.ofNat (card 10 (tb s)))):=by
 refine Eq.trans (b:=XT (Eb n) 1000000 (Int.ofNat s)) (by kernel_rfl) ?_
 exact Uw (Rp (Yb _) s hs)
def cl (s k:Nat):Nat:=s &&& (1023 ^^^ 2 ^ k)
theorem WG:NL (fun s=>NL (fun k=>Bd (QV .u16 (Int.ofNat s) (QW .u16 1 k)) (Int.ofNat (cl s k))) 10) 1024=true:=by kernel_rfl
theorem WH (s k:Nat) (hs:s < 1024) (hk:k < 10):QV .u16 (Int.ofNat s) (QW .u16 1 k)=Int.ofNat (cl s k):=by
 have:=Rp (Rp WG s hs) k hk
 rw[Lr] at this
 exact eq_of_beq this
theorem Yc (i:Nat) (hi:i < 10):Nat.testBit 1023 i=true:=by
 match i,hi with
 | 0,_=>rfl | 1,_=>rfl | 2,_=>rfl | 3,_=>rfl | 4,_=>rfl | 5,_=>rfl | 6,_=>rfl | 7,_=>rfl | 8,_=>rfl | 9,_=>rfl
theorem jK (s k i:Nat) (hi:i < 10):(cl s k).testBit i=(s.testBit i && !(i == k)):=by
 unfold cl
 rw[Nat.testBit_and,Nat.testBit_xor,Yc i hi,Nat.testBit_two_pow]
 by_cases h:k=i
 ·subst h;simp
 ·have:¬ i=k:=fun e=>h e.symm
  simp[h,this]
theorem wC (s k m:Nat) (hs:s < 2 ^ m):cl s k < 2 ^ m:=Nat.lt_of_le_of_lt Nat.and_le_left hs
theorem Ni {s m i:Nat} (hs:s < 2 ^ m) (hi:m≤i):s.testBit i=false:=Nat.testBit_lt_two_pow (Nat.lt_of_lt_of_le hs (Nat.pow_le_pow_right (by decide) hi))
theorem WI {m:Nat} (h:m≤10):(2:Nat) ^ m≤1024:=Nat.pow_le_pow_right (n:=2) (by decide) h
theorem Ux (m:Nat) (hm:m≤10) (S:Bn) (hs:∀ i,m≤i→S i=false):els 10 S=els m S:=by
 unfold els
 obtain⟨d,hd⟩:=Nat.exists_eq_add_of_le hm
 rw[hd,List.range_add,List.filter_append]
 have:((List.range d).map (m + ·)).filter S=[]:=by
  rw[List.filter_eq_nil_iff];intro a ha
  simp at ha;obtain⟨b,_,rfl⟩:=ha
  rw[hs _ (by omega)];exact Bool.false_ne_true
 rw[this,List.append_nil]
theorem wI {s m:Nat} (hm:m≤10) (hs:s < 2 ^ m):eL s=(els m (tb s)).map Int.ofNat:=by
 unfold eL;rw[Ux m hm (tb s) (fun i hi=>Ni hs hi)]
theorem jL {s m:Nat} (hm:m≤10) (hs:s < 2 ^ m):card 10 (tb s)=card m (tb s):=by
 rw[←Gu,←Gu,Ux m hm (tb s) (fun i hi=>Ni hs hi)]
theorem kQ {s k m:Nat} (hm:m≤10):∀ i,i < m→tb (cl s k) i=del (tb s) k i:=fun i hi=>jK s k i (by omega)

def fn (l:List Int):Nat→Int:=fun i=>l.getD i 0
theorem Jg {l:List Int} {i:Nat} (h:i < l.length):fn l i=l[i]:=by unfold fn;rw[List.getD_eq_getElem?_getD,List.getElem?_eq_getElem h,Option.getD_some]
theorem LU (i:Nat) (S:Bn) (f:Nat→Int) (x:Int):cn (i+1) S f x=cn i S f x+(if S i=true∧f i=x then 1 else 0):=by
 unfold cn
 rw[List.range_succ,List.countP_append,List.countP_singleton]
 congr 1
 cases h:S i <;> simp
theorem ZK (i:Nat) (S:Bn) (f:Nat→Int) (x:Int):cn i S f x≤i:=by
 unfold cn
 exact Nat.le_trans List.countP_le_length (by simp)
theorem kR {i:Nat} {S:Bn} {f:Nat→Int} {x:Int} (h:∀ j,j < i→f j≠x):cn i S f x=0:=by
 unfold cn
 rw[List.countP_eq_zero]
 intro j hj
 have:=h j (by simpa using hj)
 simp[this]

theorem Yd (pu:Af) (n:Nat) (q:List Int) (hq:q.length=5):∃ b,QO pu n (q.map I)=some (.bool b)∧(b=true↔∀ j,j < 5→q.getD j 0=0):=by
 match q,hq with
 | [a, b, c, d, e], _ =>
  refine⟨bq true (an (Bd a 0) (an (Bd b 0) (an (Bd c 0) (an (Bd d 0) (an (Bd e 0) true))))),rfl,?_⟩
  have:(bq true (an (Bd a 0) (an (Bd b 0) (an (Bd c 0) (an (Bd d 0) (an (Bd e 0) true)))))=true)↔a=0∧b=0∧c=0∧d=0∧e=0:=by
   simp[Lr]
  rw[this]
  constructor
  ·rintro⟨rfl,rfl,rfl,rfl,rfl⟩ j hj
   match j,hj with | 0,_=>rfl | 1,_=>rfl | 2,_=>rfl | 3,_=>rfl | 4,_=>rfl | j+5,hj=>omega
  ·intro g;exact⟨g 0 (by omega),g 1 (by omega),g 2 (by omega),g 3 (by omega),g 4 (by omega)⟩
end Go.MnWM
set_option maxRecDepth 100000
namespace Go.MnWM
open Go.Sp Go.MnW Go.MdM

def Sj (l:List Int):Prop:=∀ x∈l,0≤x∧x < 5
theorem UQ (q:List Int) (X Y:Nat) (hq:q.length=5) (hX:X < 5) (hY:Y < 5) (hb:∀ j,j < 5→-1000≤q.getD j 0∧q.getD j 0≤1000) :
 (q.map I)[X]?=some (I (q.getD X 0))∧Aj .i64 (Int.add (q.getD X 0) 1)=q.getD X 0+1∧BM ([I (q.getD X 0+1)]:List Value) X (q.map I)=(q.set X (q.getD X 0+1)).map I ∧
 ((q.set X (q.getD X 0+1)).map I)[Y]?=some (I ((q.set X (q.getD X 0+1)).getD Y 0))∧Aj .i64 (Int.sub ((q.set X (q.getD X 0+1)).getD Y 0) 1)=(q.set X (q.getD X 0+1)).getD Y 0 - 1 ∧
 BM ([I ((q.set X (q.getD X 0+1)).getD Y 0 - 1)]:List Value) Y ((q.set X (q.getD X 0+1)).map I)=(upd q X Y).map I:=by
 have gX : q[X]'(by omega) = q.getD X 0 := by simp [List.getD_eq_getElem?_getD, hq, hX]
 have hl1:(q.set X (q.getD X 0+1)).length=5:=by simp[hq]
 have gY : (q.set X (q.getD X 0 + 1))[Y]'(by omega) = (q.set X (q.getD X 0 + 1)).getD Y 0 := by simp [List.getD_eq_getElem?_getD, hq, hY]
 have hbY:-1001≤(q.set X (q.getD X 0+1)).getD Y 0∧(q.set X (q.getD X 0+1)).getD Y 0≤1001:=by
  have h1:=hb X hX
  have h2:=hb Y hY
  rw[RO _ _ _ _ (by omega)]
  split <;> omega
 refine ⟨?_, Oe _ (by have := hb X hX; show _ ≤ q.getD X 0 + 1; omega) (by have := hb X hX; show q.getD X 0 + 1 ≤ _; omega), ?_, ?_,
  Oe _ (by show _≤(q.set X (q.getD X 0+1)).getD Y 0 - 1;omega) (by show (q.set X (q.getD X 0+1)).getD Y 0 - 1≤_;omega),?_⟩
 ·rw[Aja q X (by omega),gX]
 ·rw[Ha _ _ _ (by simp[hq,hX]),List.map_set]
 ·rw[Aja _ Y (by omega),gY]
 ·rw[Ha _ _ _ (by simp[hq,hY]),←List.map_set];rfl
theorem Uy {l:List Int} (hl:Sj l) {i:Nat} (h:i < l.length):∃ X:Nat,l[i]=Int.ofNat X∧X < 5:=by
 obtain⟨h1,h2⟩:=hl _ (List.getElem_mem h)
 exact⟨l[i].toNat,(Int.toNat_of_nonneg h1).symm,by omega⟩
theorem Uz {l:List Int} (hl:Sj l) {x:Int} (hx:¬ (0≤x∧x < 5)) (S:Bn) {i:Nat} (hi:i≤l.length):cn i S (fn l) x=0:=by
 refine kR fun j hj e=>hx ?_
 rw[Jg (by omega)] at e
 rw[←e];exact hl _ (List.getElem_mem _)

theorem l71 (n m fl fl' s:Nat) (k:Int) (h w:List Int) (hN:h.length≤10) (hw:w.length=h.length) (hs:s < 1024) (hk:Sj h) (hkw:Sj w):∀ (f i:Nat) (q:List Int),h.length - i < f→i≤h.length→q.length=5 →
 (∀ j,j < 5→q.getD j 0=cn i (tb s) (fn h) (j:Int) - cn i (tb s) (fn w) (j:Int)) →
 ∃ b,OG (Eb (n+1)) m f (Int.ofNat s) (Int.ofNat h.length) (Int.ofNat i) k (sl fl h) (sl fl' w) (q.map I)=some (.bool b)∧(b=true↔Bp h.length (fn h) (fn w) (tb s)):=by
 intro f
 induction f with
 | zero=>intro i q hi;omega
 | succ f ih =>
  intro i q hi hil hq hinv
  show ∃ b,QR (Eb (n+1)) m (OG (Eb (n+1)) m f) _ _ _ _ _ _ _=_∧_
  unfold QR
  rw[Bh,kL,Ak]
  by_cases hlt:i < h.length
  ·have hlw:i < w.length:=by omega
   rw[Gy hlt,Ak]
   have p:=p53 n s i hs (by omega)
   simp only[p,Ac,BU]
   cases hb:s.testBit i with
   | false =>
    rw[AA]
    unfold O5
    rw[Bh,kL,Ak,DC i (by omega)]
    refine ih (i+1) q (by omega) (by omega) hq fun j hj=>?_
    rw[hinv j hj,LU,LU]
    simp[tb,hb]
   | true =>
    obtain⟨X,eX,hX⟩:=Uy hk hlt
    obtain⟨Y,eY,hY⟩:=Uy hkw hlw
    have hbq:∀ j,j < 5→-1000≤q.getD j 0∧q.getD j 0≤1000:=fun j hj=>by
     have:=hinv j hj
     have c1:=ZK i (tb s) (fn h) (j:Int)
     have c2:=ZK i (tb s) (fn w) (j:Int)
     omega
    obtain⟨u1,u2,u3,u4,u5,u6⟩:=UQ q X Y hq hX hY hbq
    have hl1:(q.set X (q.getD X 0+1)).length=5:=by simp[hq]
    unfold O5
    simp only[Ak,Cx,Ac,I4,GX,blt_eq,hlt,hlw,decide_true,CF,Bool.true_and,BZ,Nat.mul_one,Aja h i hlt,Aja w i hlw,BP,eX,eY,hX,hY,Nat.zero_add,u1,u2,u3,u4,u5,u6,ble_eq,AV,List.length_map,hq,hl1,Nat.succ_le_of_lt hX,Nat.succ_le_of_lt hY,Bh,kL,DC i (by omega:i < 1000000)]
    refine ih (i+1) (upd q X Y) (by omega) (by omega) (by rw[Un,hq]) fun j hj=>?_
    rw[Uo q X Y j (by omega) (by omega) (by omega),hinv j hj,LU,LU,Jg hlt,Jg hlw,eX,eY]
    have t1:(tb s i=true∧Int.ofNat X=(j:Int))↔j=X:=by simp[tb,hb];omega
    have t2:(tb s i=true∧Int.ofNat Y=(j:Int))↔j=Y:=by simp[tb,hb];omega
    simp only[t1,t2]
    split <;> split <;> simp <;> omega
  ·have:i=h.length:=by omega
   subst this
   rw[G9 hlt,AA]
   obtain⟨b,e,hb⟩:=Yd (Eb (n+1)) m q hq
   refine⟨b,e,hb.trans ⟨fun g x=>?_,fun g j hj=>?_⟩⟩
   ·by_cases hx:0≤x∧x < 5
    ·obtain⟨j,rfl⟩:∃ j:Nat,x=j:=⟨x.toNat,by omega⟩
     have h1:=hinv j (by omega)
     have h2:=g j (by omega)
     omega
    ·rw[Uz hk hx _ (Nat.le_refl _),Uz hkw hx _ (by omega)]
   ·rw[hinv j hj,g j];omega
theorem p71 (n fl fl' s:Nat) (k:Int) (h w:List Int) (hN:h.length≤10) (hw:w.length=h.length) (hs:s < 1024) (hk:Sj h) (hkw:Sj w) :
 ∃ b,Eb (n+2) 71 [tr fl fl' k h w,.int .u16 (Int.ofNat s)]=some (.bool b)∧(b=true↔Bp h.length (fn h) (fn w) (tb s)):=by
 obtain⟨b,e,hb⟩:=l71 n 1000000 fl fl' s k h w hN hw hs hk hkw 1000000 0 [0,0,0,0,0] (by omega) (by omega) rfl (by intro j hj;match j,hj with | 0,_=>rfl | 1,_=>rfl | 2,_=>rfl | 3,_=>rfl | 4,_=>rfl | j+5,hj=>omega)
 refine⟨b,?_,hb⟩
 refine Eq.trans (b:=OG (Eb (n+1)) 1000000 1000000 (Int.ofNat s) (Int.ofNat h.length) (Int.ofNat 0) k (sl fl h) (sl fl' w) (([0,0,0,0,0]:List Int).map I)) (by kernel_rfl) e
end Go.MnWM
set_option maxRecDepth 100000
namespace Go.MnWM
open Go.Sp Go.MnW Go.MdM

abbrev U (s:Nat):Value:=.int .u16 (Int.ofNat s)
def BO (T:Nat→Int) (es:List EO):Prop:=∀ e∈es,∃ s b,e=⟨U s,I (T s),b⟩
theorem wJ {a b:Nat} (h:U a=U b):a=b:=by injection h with _ h;injection h
theorem Gt {T:Nat→Int} {es:List EO} (h:BO T es):Au F4 es=true:=by
 rw[Bh,List.all_eq_true]
 intro e he
 obtain⟨s,b,rfl⟩:=h e he
 rfl
theorem Oi {T:Nat→Int} (s:Nat):∀ (es:List EO) (i:Nat),BO T es →
 (GD (U s) es i=some none∧∀ e∈es,e.key≠U s)∨∃ j b,GD (U s) es i=some (some (i+j,I (T s)))∧es[j]?=some ⟨U s,I (T s),b⟩
 | [],i,_=>.inl ⟨rfl,fun e he=>by cases he⟩
 | e :: es, i, h => by
  obtain⟨t,b,rfl⟩:=h e (by simp)
  have hf:GD (U s) (⟨U t,I (T t),b⟩::es) i=bb (Bd (Int.ofNat s) (Int.ofNat t)) (some (some (i,I (T t)))) (GD (U s) es (i+1)):=rfl
  by_cases hst:s=t
  ·subst hst
   rw[hf,show Bd (Int.ofNat s) (Int.ofNat s)=true from by simp[Lr],Ak]
   exact .inr ⟨0,b,rfl,rfl⟩
  ·rw[hf,show Bd (Int.ofNat s) (Int.ofNat t)=false from by simp[Lr];omega,AA]
   rcases Oi s es (i+1) (fun e he=>h e (by simp[he])) with⟨h1,h2⟩ | ⟨j,b',h1,h2⟩
   ·refine .inl ⟨h1,fun e he=>?_⟩
    rcases List.mem_cons.1 he with rfl | he
    ·intro g;exact hst (wJ g).symm
    ·exact h2 e he
   ·refine .inr ⟨j+1,b',?_,by simpa using h2⟩
    rw[h1,show i+1+j=i+(j+1) by omega]
theorem O9 {α:Type} (f:α→α):∀ (j:Nat) (l:List α) (a:α),l[j]?=some a→f a=a→SS f j l=l
 | 0,a::l,b,h,hf=>by simp at h;subst h;show f a::l=_;rw[hf]
 | j + 1, a :: l, b, h, hf => by
  show a::SS f j l=_
  rw[O9 f j l b (by simpa using h) hf]
 | _,[],_,h,_=>by simp at h
theorem kS {T:Nat→Int} (s c:Nat) {es:List EO} (h:BO T es):∃ r,GD (U s) es 0=some r∧BO T (Gr (U s) (I (T s)) c es r)∧(∀ e∈es,e∈Gr (U s) (I (T s)) c es r):=by
 rcases Oi s es 0 h with⟨h1,h2⟩ | ⟨j,b,h1,h2⟩
 ·refine⟨none,h1,?_,?_⟩
  ·show BO T (Br es [⟨U s,I (T s),c⟩])
   rw[BH]
   intro e he
   rcases List.mem_append.1 he with he | he
   ·exact h e he
   ·exact⟨s,c,List.mem_singleton.1 he⟩
  ·intro e he
   show e∈Br es _
   rw[BH];simp[he]
 ·refine⟨_,h1,?_⟩
  have:Gr (U s) (I (T s)) c es (some (0+j,I (T s)))=es:=by
   show SS (fun e=>⟨U s,I (T s),e.born⟩) (0+j) es=es
   rw[Nat.zero_add]
   exact O9 _ j es _ h2 rfl
  rw[this];exact⟨h,fun e he=>he⟩

def ptr:Value:=.pointer (some ⟨1,0,none⟩)
def UT (fl fl':Nat) (k:Int) (h w:List Int):Value:=.agg ⟨[I k,S fl h,S fl' w,.map (some 2)]⟩
noncomputable def mp (es:List EO) (c:Nat):Value:=Ef (.map es c)
noncomputable def Co (h w:List Int) (s:Nat):Int:=Int.ofNat (M h.length (fn h) (fn w) (tb s))
def Gm (h w:List Int) (es:List EO):Prop:=BO (Co h w) es∧∃ b,(⟨U 0,I (Co h w 0),b⟩:EO)∈es

theorem wK (N:Nat) (H W:Nat→Int) (S:Bn):M N H W S≤N:=by
 have:∀ k (S:Bn),card N S≤k→M N H W S≤card N S:=by
  intro k
  induction k with
  | zero=>intro S hk;rw[Hw (by omega)];exact Nat.zero_le _
  | succ k ih =>
   intro S hk
   by_cases h0:card N S=0
   ·rw[Hw h0];exact Nat.zero_le _
   ·rw[PQ S h0]
    have h1:mx ((els N S).map fun i=>M N H W (del S i))≤card N S - 1:=by
     refine ZI fun a ha=>?_
     obtain⟨i,hi,rfl⟩:=List.mem_map.1 ha
     obtain⟨h1,h2⟩:=Fb.1 hi
     have h3:=FN h1 h2
     have:=ih (del S i) (by omega)
     omega
    have:=SA (Bp N H W S)
    omega
 have h1:=this _ S (Nat.le_refl _)
 have h2:card N S≤N:=by unfold card;exact Nat.le_trans List.countP_le_length (by simp)
 omega
theorem Ye (l:List Nat) (i:Nat) (h:i < l.length):mx (l.take (i+1))=max (mx (l.take i)) l[i]:=by
 rw[List.take_succ_eq_append_getElem h]
 unfold mx
 rw[List.foldl_append];rfl

section
variable (fl fl':Nat) (k:Int) (h w:List Int) (hN:h.length≤10) (hw:w.length=h.length) (hk:Sj h) (hkw:Sj w)
def Cs (n d:Nat):Prop:=∀ s es c,card h.length (tb s)≤d→s < 2 ^ h.length→Gm h w es →
 ∃ es' c',Eb n 10660 [ptr,U s,UT fl fl' k h w,mp es c]=some (.tuple ⟨[I (Co h w s),UT fl fl' k h w,mp es' c']⟩)∧Gm h w es'
include hN hw hk hkw
theorem WJ (n s c:Nat) (es:List EO) (hs:s < 2 ^ h.length) (hg:Gm h w es) (h0:card h.length (tb s)≠0) :
 ∃ es' c',Jv (Eb (n+2)) 1000000 (Int.ofNat s) (Int.ofNat (mx ((els h.length (tb s)).map fun i=>M h.length (fn h) (fn w) (del (tb s) i)))) k (sl fl h) (sl fl' w) es c=some (.tuple ⟨[I (Co h w s),UT fl fl' k h w,mp es' c']⟩)∧Gm h w es':=by
 obtain⟨b,e,hb⟩:=p71 n fl fl' s k h w hN hw (Nat.lt_of_lt_of_le hs (WI hN)) hk hkw
 obtain⟨r,h1,h2,h3⟩:=kS (T:=Co h w) s c hg.1
 have fin:I8 (Eb (n+2)) 1000000 (Int.ofNat s) (Co h w s) k (sl fl h) (sl fl' w) es c=some (.tuple ⟨[I (Co h w s),UT fl fl' k h w,mp (Gr (U s) (I (Co h w s)) c es r) (Ja c r)]⟩):=by
  unfold I8
  rw[h1,Ac,Gt h2,Ak];rfl
 have gm:Gm h w (Gr (U s) (I (Co h w s)) c es r):=⟨h2,hg.2.elim fun b hb=>⟨b,h3 _ hb⟩⟩
 refine⟨_,Ja c r,?_,gm⟩
 unfold Jv
 have hm:=PQ (N:=h.length) (H:=fn h) (W:=fn w) (tb s) h0
 have hlt:=wK h.length (fn h) (fn w) (tb s)
 unfold tr S at e
 rw[e,Ac,BU,Ac,Gt hg.1,Ak]
 cases b with
 | true =>
  rw[RQ (hb.1 rfl)] at hm
  rw[Ak,DC _ (by omega),←hm]
  exact fin
 | false =>
  rw[RS (fun g=>by simpa using hb.2 g)] at hm
  rw[AA,show mx _=M h.length (fn h) (fn w) (tb s) from hm.symm]
  exact fin
theorem kT (n d s:Nat) (hs:s < 2 ^ h.length) (hd:card h.length (tb s)≤d+1) (h0:card h.length (tb s)≠0) (ih0:Cs fl fl' k h w (n+2) d):∀ (f i c:Nat) (es:List EO),(eL s).length - i < f→i≤(eL s).length→Gm h w es →
 ∃ es' c', KW (Eb (n + 2)) 1000000 f (Int.ofNat s) (Int.ofNat (mx (((els h.length (tb s)).map fun i => M h.length (fn h) (fn w) (del (tb s) i)).take i))) (sl 0 (eL s)) (Int.ofNat (eL s).length) (Int.ofNat i) k (sl fl h) (sl fl' w) es c =
  some (.tuple ⟨[I (Co h w s),UT fl fl' k h w,mp es' c']⟩)∧Gm h w es':=by
 intro f
 have heL:=wI hN hs
 have hlen:(eL s).length=(els h.length (tb s)).length:=by rw[heL,List.length_map]
 have hcd:(els h.length (tb s)).length≤10:=by
  rw[Gu];unfold card;exact Nat.le_trans List.countP_le_length (by simpa using hN)
 induction f with
 | zero=>intro i c es hi;omega
 | succ f ih =>
  intro i c es hi hil hg
  show ∃ es' c',KV (Eb (n+2)) 1000000 (KW (Eb (n+2)) 1000000 f) _ _ _ _ _ _ _ _ _ _=_∧_
  unfold KV
  rw[Gt hg.1,Ak]
  by_cases hlt:i < (eL s).length
  ·have hlt':i < (els h.length (tb s)).length:=by omega
   have hx:(eL s)[i]=Int.ofNat ((els h.length (tb s))[i]):=by simp only[heL,List.getElem_map]
   obtain⟨x1,x2⟩:=Fb.1 (List.getElem_mem hlt')
   generalize hxe:(els h.length (tb s))[i]=x at *
   have hcl:=wC s x h.length hs
   have hdel:∀ j,j < h.length→tb (cl s x) j=del (tb s) x j:=kQ hN
   have hcd2:card h.length (tb (cl s x))≤d:=by
    rw[Gq hdel];have:=FN x1 x2;omega
   obtain⟨es1,c1,e1,g1⟩:=ih0 (cl s x) es c hcd2 hcl hg
   have hT:Co h w (cl s x)=Int.ofNat (M h.length (fn h) (fn w) (del (tb s) x)):=by unfold Co;rw[K6 hdel]
   unfold UT S mp ptr at e1
   rw[Gy hlt]
   have hgx:((eL s).map I)[i]?=some (I (Int.ofNat x)):=by rw[Aja _ i hlt,hx]
   simp only[Ak,Cx,Ac,I4,GX,blt_eq,hlt,decide_true,CF,Bool.true_and,BZ,Nat.mul_one,hgx,BP,WH s x (Nat.lt_of_lt_of_le hs (WI hN)) (by omega)]
   rw[e1]
   simp only[Ac,FW,Dj,EG,RL,BP,Dc,CX,Gt g1.1,Ak,DC i (by omega),vW,hT]
   rw[show FC (Value.map (some 2)) 2=true from rfl,Ak]
   have hmx:=Ye ((els h.length (tb s)).map fun i=>M h.length (fn h) (fn w) (del (tb s) i)) i (by simpa using hlt')
   simp only[List.getElem_map,hxe] at hmx
   have hmaxI:∀ a b:Nat,max (Int.ofNat a) (Int.ofNat b)=Int.ofNat (max a b):=fun a b=>by simp only[Int.ofNat_eq_natCast];omega
   rw[hmaxI,←hmx]
   exact ih (i+1) c1 es1 (by omega) (by omega) g1
  ·have hi':i=(eL s).length:=by omega
   subst hi'
   rw[G9 hlt,AA,List.take_of_length_le (by rw[List.length_map];omega)]
   exact WJ fl fl' k h w hN hw hk hkw n s c es hs hg h0
theorem kU:∀ (d n:Nat),Cs fl fl' k h w (n+d+3) d:=by
 intro d
 induction d with
 | zero =>
  intro n s es c hd hs hg
  have hz:s=0:=by
   apply Nat.eq_of_testBit_eq
   intro i
   rw[Nat.zero_testBit]
   by_cases hi:i < h.length
   ·exact Gs (by omega:card h.length (tb s)=0) i hi
   ·exact Ni hs (by omega)
  subst hz
  obtain⟨b0,hb0⟩:=hg.2
  refine⟨es,c,?_,hg⟩
  refine Eq.trans (b:=Jc (Eb (n+0+2)) 1000000 (Int.ofNat 0) k (sl fl h) (sl fl' w) es c) ?_ ?_
  ·show JN _ _ [ptr,U 0,UT fl fl' k h w,mp es c]=_
   unfold JN UT S mp ptr
   simp only[Dj,EG,CX,Ab7,BP,RL,Dc,Ac]
   rfl
  unfold Jc
  rw[Gt hg.1,Ak]
  rcases Oi (T:=Co h w) 0 es 0 hg.1 with⟨h1,h2⟩ | ⟨j,b,h1,h2⟩
  ·exact absurd rfl (h2 _ hb0)
  ·rw[h1];rfl
 | succ d ih =>
  intro n s es c hd hs hg
  have e0:Eb (n+(d+1)+3) 10660 [ptr,U s,UT fl fl' k h w,mp es c]=Jc (Eb (n+(d+1)+2)) 1000000 (Int.ofNat s) k (sl fl h) (sl fl' w) es c:=by
   show JN _ _ [ptr,U s,UT fl fl' k h w,mp es c]=_
   unfold JN UT S mp ptr
   simp only[Dj,EG,CX,Ab7,BP,RL,Dc,Ac]
   rfl
  rw[e0]
  unfold Jc
  rw[Gt hg.1,Ak]
  rcases Oi (T:=Co h w) s es 0 hg.1 with⟨h1,h2⟩ | ⟨j,b,h1,h2⟩
  ·have h0 : card h.length (tb s) ≠ 0 := by
    intro hz
    have hz:s=0:=by
     apply Nat.eq_of_testBit_eq
     intro i
     rw[Nat.zero_testBit]
     by_cases hi:i < h.length
     ·exact Gs hz i hi
     ·exact Ni hs (by omega)
    subst hz
    obtain⟨b0,hb0⟩:=hg.2
    exact h2 _ hb0 rfl
   rw[h1,Ac]
   have e1:Bi .i64 (Wd none (.int .i64 0))=some 0:=rfl
   have p:=p62 (n+d+1) s (Nat.lt_of_lt_of_le hs (WI hN))
   rw[wB s (Nat.lt_of_lt_of_le hs (WI hN))] at p
   rw[e1,Ac,show isS (none:Option (Nat×Value))=false from rfl,AA]
   rw[show n+(d+1)+2=n+d+1+2 by omega,p,Ac]
   unfold S
   rw[Dc,Ac]
   have:=kT fl fl' k h w hN hw hk hkw (n+d+1) d s hs hd h0 (by have:=ih n;rwa [show n+d+3=n+d+1+2 by omega] at this) 1000000 0 c es (by rw[wI hN hs,List.length_map,Gu];unfold card;have:=List.countP_le_length (l:=List.range h.length) (p:=tb s);rw[List.length_range] at this;omega) (by omega) hg
   rw[List.take_zero] at this
   exact this
  ·refine⟨es,c,?_,hg⟩
   rw[h1];rfl
end
end Go.MnWM
set_option maxRecDepth 100000
namespace Go.MnWM
open Go.Sp Go.MnW Go.MdM

theorem kV (n fl fl':Nat) (k:Int) (h w:List Int):Eb (n+1) 10650 [tr fl fl' k h w]=some (.tuple ⟨[ptr,UT fl fl' k h w,mp [⟨U 0,I 0,0⟩] 1]⟩):=by kernel_rfl
theorem TM0 (h w:List Int):Co h w 0=0:=by
 unfold Co
 rw[Hw];rfl
 unfold card
 rw[List.countP_eq_zero]
 intro i _
 simp[tb]
theorem gm0 (h w:List Int):Gm h w [⟨U 0,I 0,0⟩]:=by
 refine⟨fun e he=>⟨0,0,?_⟩,0,?_⟩
 ·rw[List.mem_singleton.1 he,TM0]
 ·rw[TM0];simp
noncomputable def CY (h w:List Int):Int:=Int.ofNat (card h.length (tb (bv h w))) - Co h w (bv h w)
theorem p44 (n fl fl':Nat) (k:Int) (h w:List Int) (hN:h.length≤10) (hw:w.length=h.length) (hk:Sj h) (hkw:Sj w):Eb (n+14) 44 [tr fl fl' k h w]=some (I (CY h w)):=by
 refine Eq.trans (b:=XQ (Eb (n+13)) 1000000 k (sl fl h) (sl fl' w)) (by kernel_rfl) ?_
 unfold XQ
 have hb:=ZH h w
 have hb2:=Nat.lt_of_lt_of_le hb (WI hN)
 have hcd:card h.length (tb (bv h w))≤10:=by unfold card;exact Nat.le_trans List.countP_le_length (by simpa using hN)
 obtain⟨es,c,e1,g1⟩:=kU fl fl' k h w hN hw hk hkw 10 n (bv h w) _ 1 hcd hb (gm0 h w)
 have e2:=p51 (n+12) fl fl' k h w hN hw
 have e3:=p64 (n+12) (bv h w) hb2
 have e4:=kV (n+12) fl fl' k h w
 unfold tr S at e2 e4
 unfold UT S mp ptr at e1 e4
 rw[e2]
 simp only[Ac,Ab7]
 rw[e3]
 simp only[Ac,BP]
 rw[e4]
 simp only[Ac,FW,Dj,EG,RL,BP,Dc,CX,Gt (gm0 h w).1,Ak]
 rw[show MK (Value.pointer (some ⟨1,0,none⟩)) 1 0=true from rfl,show FC (Value.map (some 2)) 2=true from rfl]
 simp only[Ak]
 unfold U at e1
 rw[e1]
 simp only[Ac,FW,Dj,EG,RL,BP,Dc,CX,Gt g1.1,Ak]
 have hM:=wK h.length (fn h) (fn w) (tb (bv h w))
 have:Aj .i64 (Int.sub (Int.ofNat (card 10 (tb (bv h w)))) (Co h w (bv h w)))=CY h w:=by
  rw[jL hN hb]
  unfold CY Co
  exact Oe _ (by show _≤((card h.length (tb (bv h w)):Nat):Int) - ((M h.length (fn h) (fn w) (tb (bv h w)):Nat):Int);omega) (by show ((card h.length (tb (bv h w)):Nat):Int) - ((M h.length (fn h) (fn w) (tb (bv h w)):Nat):Int)≤_;omega)
 rw[this]
 rw[show FC (Value.map (some 2)) 2=true from rfl,Ak]
end Go.MnWM
set_option maxRecDepth 100000
namespace Go.MnWM
open Go.Sp Go.MnW Go.MdM

def nI (l:List Nat):List Int:=l.map Int.ofNat
theorem Jh (l:List Nat):(nI l).length=l.length:=by simp[nI]
theorem kW (l : List Nat) (i : Nat) (h : i < l.length) : (nI l)[i]'(by rw [Jh]; exact h) = Int.ofNat l[i] := by simp [nI]
theorem zH (l:List Nat) (i:Nat) (h:i < l.length):((nI l).map I)[i]?=some (I (Int.ofNat l[i])):=by rw[Aja _ i (by rw[Jh];exact h),kW l i h]
theorem VM (l:List Nat):Au Ah ((nI l).map I)=true:=by rw[Bh,kL]
def rv (r:List Nat):Value:=S 0 (nI r)
theorem kX (r:List Nat):an (Nat.ble (0+r.length*1) (len ((nI r).map I))) (Au Ah (Aq (r.length*1) (Am 0 ((nI r).map I))))=true:=by
 have:r.length*1=((nI r).map I).length:=by rw[List.length_map,Jh,Nat.mul_one]
 rw[Nat.zero_add,this,Bz,List.drop_zero,Cg,List.take_length,VM,AV,ble_eq]
 simp
theorem takeN (r:List Nat):Aq (r.length*1) (Am 0 ((nI r).map I))=(nI r).map I:=by
 have:r.length*1=((nI r).map I).length:=by rw[List.length_map,Jh,Nat.mul_one]
 rw[this,Bz,List.drop_zero,Cg,List.take_length]
section
variable (n f1 f2 : Nat) (P X : List Nat) (s : Nat → Nat) (hP : P.Nodup) (hP10 : P.length ≤ 10) (hX : X.length = P.length) (hs : ∀ i (h : i < P.length), s P[i] = X[i]'(by omega)) (hXP : ∀ x ∈ X, x ∈ P)
include hP hP10 hX hs hXP
end
end Go.MnWM
set_option maxRecDepth 100000
namespace Go.MnWM
open Go.Sp Go.MnW Go.MdM

section
variable (pu:Af) (m:Nat) (A B:List (List Nat)) (hAB:A.length=B.length)
include hAB
end
end Go.MnWM
set_option maxRecDepth 100000
namespace Go.MnWM
open Go.Sp Go.MnW Go.MdM

section
variable (h w:List Int) (s0:Nat) (G:List (List Nat)) (hN:h.length≤10) (hw:w.length=h.length) (hs0:s0 < 2 ^ h.length)
abbrev PL:List Nat:=els h.length (tb s0)
def wL:Prop:=G≠[]∧G.length=M h.length (fn h) (fn w) (tb s0)∧∀ L,BI h.length (fn h) (fn w) (tb s0) L→L=G∨L.length < M h.length (fn h) (fn w) (tb s0)∨(L.length=M h.length (fn h) (fn w) (tb s0)∧xN G L)
end
end Go.MnWM
set_option maxRecDepth 100000
namespace Go.MnWM
open Go.Sp Go.MnW Go.MdM

section
variable (h w:List Int) (s0:Nat) (G:List (List Nat)) (hN:h.length≤10) (hw:w.length=h.length) (hG:wL h w s0 G) (hP0:PL h s0≠[])
include hN hw
include hG hP0
end

theorem SB:∀ (h w:List Int) (i:Nat) (hi:i < h.length) (hj:i < w.length),(bv h w).testBit i = !(h[i] == w[i])
 | [],_,i,hi,_=>by simp at hi
 | _::_,[],i,_,hj=>by simp at hj
 | x :: h, y :: w, 0, _, _ => by
  rw[Nat.testBit_zero]
  simp only[bv,List.getElem_cons_zero]
  by_cases e:x=y <;> simp[e] <;> omega
 | x :: h, y :: w, i + 1, hi, hj => by
  rw[Nat.testBit_succ]
  simp only[bv,List.getElem_cons_succ]
  rw[show ((if x=y then 0 else 1)+2*bv h w) / 2=bv h w by split <;> omega]
  exact SB h w i (by simpa using hi) (by simpa using hj)
theorem OP (l : List Int) (x : Int) : ∀ (m : Nat), m ≤ l.length → (l.take m).count x = cn m (fun _ => true) (fn l) x
 | 0,_=>by simp[cn]
 | m + 1, h => by
  rw[K8 (by omega),LU,OP l x m (by omega),Jg (by omega)]
  simp
theorem WK {K:Nat} {h w:List Int} (hw:w.length=h.length) (hk:L6 K h) (hkw:L6 K w) (he:lY K h w):Bp h.length (fn h) (fn w) (tb (bv h w)):=by
 intro x
 have split:∀ f:Nat→Int,cn h.length (fun _=>true) f x=cn h.length (tb (bv h w)) f x+cn h.length (fun i=>!(tb (bv h w) i)) f x:=fun f=>
  Jb f x (fun i _=>by cases tb (bv h w) i <;> rfl) (fun i _ g=>by cases hb:tb (bv h w) i <;> simp[hb] at g)
 have same:cn h.length (fun i=>!(tb (bv h w) i)) (fn h) x=cn h.length (fun i=>!(tb (bv h w) i)) (fn w) x:=by
  unfold cn
  apply List.countP_congr
  intro i hi
  have hi:i < h.length:=by simpa using hi
  have hj:i < w.length:=by omega
  have:=SB h w i hi hj
  rw[Jg hi,Jg hj]
  show (!(bv h w).testBit i && _)=true↔(!(bv h w).testBit i && _)=true
  rw[this]
  by_cases e:h[i]=w[i] <;> simp[e]
 have all:cn h.length (fun _=>true) (fn h) x=cn h.length (fun _=>true) (fn w) x:=by
  rw[←OP h x h.length (Nat.le_refl _),←OP w x h.length (by omega),List.take_length,←hw,List.take_length]
  by_cases hx:0≤x∧x < K
  ·obtain⟨j,rfl⟩:∃ j:Nat,x=j:=⟨x.toNat,by omega⟩
   exact he j (by omega)
  ·rw[List.count_eq_zero.2 (fun hm=>hx (hk _ hm)),List.count_eq_zero.2 (fun hm=>hx (hkw _ hm))]
 have s1:=split (fn h)
 have s2:=split (fn w)
 omega
noncomputable def C8 (h w:List Int):List (List Nat):=gr h.length (fn h) (fn w) h.length (tb (bv h w))
structure Ok (k:Int) (h w:List Int):Prop where
 n10:h.length≤10
 n1:1≤h.length
 len:w.length=h.length
 kh:Sj h
 kw:Sj w
 k1:1≤k∧k≤5
 kk:L6 k h∧L6 k w
 ev:lY k.toNat h w
 dv:BI h.length (fn h) (fn w) (tb (bv h w)) (C8 h w)
 ln:(C8 h w).length=M h.length (fn h) (fn w) (tb (bv h w))
 fst:∀ L,BI h.length (fn h) (fn w) (tb (bv h w)) L→L=C8 h w∨L.length < M h.length (fn h) (fn w) (tb (bv h w))∨(L.length=M h.length (fn h) (fn w) (tb (bv h w))∧xN (C8 h w) L)
theorem Yf (N:Nat) (S:Bn):card N S≤N:=by unfold card;exact Nat.le_trans List.countP_le_length (by simp)
theorem wM {k:Int} {h w:List Int} (hc:chk k h w=0):Ok k h w:=by
 unfold chk at hc
 by_cases c1:1≤k∧k≤5
 ·rw[I9 c1] at hc
  by_cases c2:h.length=0
  ·rw[I9 c2] at hc;cases hc
  ·rw[Jd c2] at hc
   by_cases c3:10 < h.length
   ·rw[I9 c3] at hc;cases hc
   ·rw[Jd c3] at hc
    by_cases c4:w.length=h.length
    ·rw[I9 c4] at hc
     by_cases c5:L6 k h∧L6 k w
     ·rw[I9 c5] at hc
      by_cases c6:lY k.toNat h w
      ·have hK:((k.toNat:Nat):Int)=k:=by omega
       have k1:L6 (k.toNat:Nat) h:=by rw[hK];exact c5.1
       have k2:L6 (k.toNat:Nat) w:=by rw[hK];exact c5.2
       have he:=WK c4 k1 k2 c6
       obtain⟨g1,g2,g3⟩:=vY h.length (tb (bv h w)) (Yf _ _) he
       exact⟨by omega,by omega,c4,fun x hx=>⟨(c5.1 x hx).1,by have:=(c5.1 x hx).2;omega⟩,fun x hx=>⟨(c5.2 x hx).1,by have:=(c5.2 x hx).2;omega⟩,c1,c5,c6,g1,g2,g3⟩
      ·rw[Jd c6] at hc;cases hc
     ·rw[Jd c5] at hc;cases hc
    ·rw[Jd c4] at hc;cases hc
 ·rw[Jd c1] at hc;cases hc
end Go.MnWM
set_option maxRecDepth 100000
namespace Go.MnWM
open Go.Sp Go.MnW Go.MdM

noncomputable def hb (h w:List Int) (a b:Nat):Bool:=AY (CY (swp h a b) w) (CY h w)
noncomputable def Yg (h w:List Int) (a:Nat):Nat→Nat→List (Nat×Nat)
 | 0,_=>[]
 | f+1,b=>(bif hb h w a b then [(a,b)] else [])++Yg h w a f (b+1)
def pq (P:List (Nat×Nat)):List Value:=P.flatMap fun p=>[I (Int.ofNat p.1),I (Int.ofNat p.2)]
def ps (P:List (Nat×Nat)):Sl:=⟨P.length,0,pq P⟩
section
variable (n f1 f2:Nat) (k:Int) (h w:List Int) (ho:Ok k h w)
include ho
end
section
variable (pu:Af) (n:Nat) (k:Int) (s t:Sl) (e12:pu 12 []=some (Value.bool true))
include e12
end
theorem e12 (n:Nat):Eb (n+1) 12 []=some (Value.bool true):=by kernel_rfl
end Go.MnWM
set_option maxRecDepth 100000
namespace Go.MdM
variable {N:Nat} {H W:Nat→Int}
end Go.MdM
namespace Go.MnWM
open Go.Sp Go.MnW Go.MdM

def Qr (h w:List Int) (r:Nat):Bn→Prop:=fun R=>Bp h.length (fn h) (fn w) R∧M h.length (fn h) (fn w) R=r
noncomputable def fd (h w:List Int) (r f d:Nat) (R:Bn) (last:Nat):Nat→Option (List Nat):=fun i=>if fn h i=fn w last then (X4 h.length (fn h) (fn w) (Qr h w r) f d (del R i) i).map (i :: ·) else none
section
variable (fl fl':Nat) (k:Int) (h w:List Int) (hN:h.length≤10) (hw:w.length=h.length) (hk:Sj h) (hkw:Sj w)
include hN hw
include hk hkw
end
end Go.MnWM
