/- The plain law of MendTrays, first part: checks. -/
import Derived.Test.YtlgmapibifphaaaDoorSpObjx
import Derived.Test.YtlgmapibifphaaaDoorMnOPux
import Derived.KernelRfl

set_option maxRecDepth 100000
namespace Go.MnOM
open Go.Sp Go.MnO

theorem p52 (n:Nat) (a b c:Int):Eb (n+1) 52 [I a,I b,I c]=some (Value.bool (decide (a≤b) && decide (b≤c))):=by
 show bb (nt (AY b a)) (some (Value.bool (nt (AY c b)))) (some (Value.bool false))=_
 by_cases h1:a≤b <;> by_cases h2:b≤c <;> simp[JY,h1,h2,show (b < a)↔¬ a≤b from by omega,show (c < b)↔¬ b≤c from by omega]
theorem FL {a b:Nat} (h:a < b):AY (Int.ofNat a) (Int.ofNat b)=true:=by simp[JY,h]
theorem FD {a b:Nat} (h:¬ a < b):AY (Int.ofNat a) (Int.ofNat b)=false:=by simp[JY];omega

noncomputable def UZ (p:Prop) (a b:Int):Int:=@ite _ p (Classical.propDecidable p) a b
theorem Hw {p:Prop} {a b:Int} (h:p):UZ p a b=a:=if_pos h
theorem Iy {p:Prop} {a b:Int} (h:¬ p):UZ p a b=b:=if_neg h
theorem QN {p q:Prop} (h:p↔q) (a b:Int):UZ p a b=UZ q a b:=by rw[propext h]

def MF (k:Int) (l:List Int):Prop:=∀ x∈l,0≤x∧x < k
def vE (K:Nat) (h w:List Int):Prop:=∀ x:Nat,x < K→h.count (x:Int)=w.count (x:Int)
noncomputable def chk (k:Int) (h w:List Int):Int:=
 UZ (1≤k∧k≤5) (UZ (h.length=0) 4 (UZ (10 < h.length) 3 (UZ (w.length=h.length) (UZ (MF k h∧MF k w) (UZ (vE k.toNat h w) 0 17) 2) 5))) 1
def tr (fl fl':Nat) (k:Int) (h w:List Int):Value:=.agg ⟨[I k,S fl h,S fl' w]⟩

theorem Nc {k x:Int} {l:List Int}:MF k (x::l)↔(0≤x∧x < k)∧MF k l:=by simp[MF]
end Go.MnOM
set_option maxRecDepth 100000
namespace Go.MnOM
open Go.Sp Go.MnO

theorem HY {α:Type} (v:α):∀ (i:Nat) (xs:List α),i < xs.length→BM [v] i xs=xs.set i v
 | 0,x::xs,_=>rfl
 | i + 1, x :: xs, h => by
  show x::BM [v] i xs=x::xs.set i v
  rw[HY v i xs (by simpa using h)]
 | _,[],h=>by simp at h

theorem bV (pu:Af) (n:Nat) (q:List Int) (hq:q.length=5):Ui pu n (q.map I)=some (I (UZ (∀ j,(h:j < q.length)→q[j]=0) 0 17)):=by
 match q,hq with
 | [a, b, c, d, e], _ =>
  show bb (bq false (an (Bd a 0) (an (Bd b 0) (an (Bd c 0) (an (Bd d 0) (an (Bd e 0) true)))))) (some (I 17)) (some (I 0))=_
  by_cases h:a=0∧b=0∧c=0∧d=0∧e=0
  ·obtain⟨rfl,rfl,rfl,rfl,rfl⟩:=h
   rw[Hw (by intro j hj;match j,hj with | 0,_=>rfl | 1,_=>rfl | 2,_=>rfl | 3,_=>rfl | 4,_=>rfl | j+5,hj=>simp at hj;omega)]
   rfl
  ·rw[Iy (fun g=>h ⟨g 0 (by simp),g 1 (by simp),g 2 (by simp),g 3 (by simp),g 4 (by simp)⟩)]
   have:(bq false (an (Bd a 0) (an (Bd b 0) (an (Bd c 0) (an (Bd d 0) (an (Bd e 0) true))))))=true:=by
    simp[Lr];omega
   rw[this];rfl

def upd (q:List Int) (X Y:Nat):List Int:=(q.set X (q.getD X 0+1)).set Y ((q.set X (q.getD X 0+1)).getD Y 0 - 1)
theorem WG (q:List Int) (X Y:Nat):(upd q X Y).length=q.length:=by simp[upd]
theorem WH (q:List Int) (X Y j:Nat) (hX:X < q.length) (hY:Y < q.length) (hj:j < q.length) :
 (upd q X Y).getD j 0=q.getD j 0+(if j=X then 1 else 0) - (if j=Y then 1 else 0):=by
 unfold upd
 simp only[List.getD_eq_getElem?_getD,List.getElem?_set,List.length_set]
 by_cases h1:j=X <;> by_cases h2:j=Y <;> simp[h1,h2,hX,hY,hj,eq_comm] <;> (try subst h1) <;> (try subst h2) <;> simp_all [eq_comm] <;> omega

theorem Uz (q:List Int) (X Y:Nat) (v:Int) (hX:X < q.length):(q.set X v).getD Y 0=if Y=X then v else q.getD Y 0:=by
 simp only[List.getD_eq_getElem?_getD,List.getElem?_set]
 by_cases h:X=Y
 ·subst h;simp[hX]
 ·rw[if_neg h,if_neg (fun e=>h e.symm)]
theorem Yt (pu:Af) (n:Nat) (ih0:Sl→Int→Int→Int→Sl→Sl→List Value→Option Value) (X Y i:Nat) (s t u:Sl) (z k:Int) (q:List Int) (hq:q.length=5) (hX:X < 5) (hY:Y < 5) (hi:i < 1000)
 (hb:∀ j,j < 5→-1000≤q.getD j 0∧q.getD j 0≤1000) :
 QL pu n ih0 (Int.ofNat X) (Int.ofNat Y) s z (Int.ofNat i) false k t u (q.map I)=ih0 s z (Int.ofNat (i+1)) k t u ((upd q X Y).map I):=by
 unfold QL
 have gX : q[X]'(by omega) = q.getD X 0 := by simp [List.getD_eq_getElem?_getD, hq, hX]
 have w1:Aj .i64 (Int.add (q.getD X 0) 1)=q.getD X 0+1:=Oe _ (by have:=hb X hX;show _≤q.getD X 0+1;omega) (by have:=hb X hX;show q.getD X 0+1≤_;omega)
 have s1:BM ([I (q.getD X 0+1)]:List Value) X (q.map I)=(q.set X (q.getD X 0+1)).map I:=by
  rw[HY _ _ _ (by simp[hq,hX]),List.map_set]
 have hl1:(q.set X (q.getD X 0+1)).length=5:=by simp[hq]
 have gY : (q.set X (q.getD X 0 + 1))[Y]'(by omega) = (q.set X (q.getD X 0 + 1)).getD Y 0 := by simp [List.getD_eq_getElem?_getD, hq, hY]
 have hbY:-1001≤(q.set X (q.getD X 0+1)).getD Y 0∧(q.set X (q.getD X 0+1)).getD Y 0≤1001:=by
  have h1:=hb X hX
  have h2:=hb Y hY
  rw[Uz _ _ _ _ (by omega)]
  split <;> omega
 have w2:Aj .i64 (Int.sub ((q.set X (q.getD X 0+1)).getD Y 0) 1)=(q.set X (q.getD X 0+1)).getD Y 0 - 1:=Oe _ (by show _≤(q.set X (q.getD X 0+1)).getD Y 0 - 1;omega) (by show (q.set X (q.getD X 0+1)).getD Y 0 - 1≤_;omega)
 have s2:BM ([I ((q.set X (q.getD X 0+1)).getD Y 0 - 1)]:List Value) Y ((q.set X (q.getD X 0+1)).map I)=(upd q X Y).map I:=by
  rw[HY _ _ _ (by simp[hq,hY]),←List.map_set];rfl
 have e1:(q.map I)[X]?=some (I (q.getD X 0)):=by rw[Aja q X (by omega),gX]
 have e2:((q.set X (q.getD X 0+1)).map I)[Y]?=some (I ((q.set X (q.getD X 0+1)).getD Y 0)):=by rw[Aja _ Y (by omega),gY]
 simp only[AA,Bh,kL,Ak,Cx,Ac,blt_eq,hX,hY,decide_true,BZ,Nat.zero_add,Nat.mul_one,e1,BP,w1,s1,ble_eq,AV,List.length_map,hq,hl1,CF,Bool.and_true,Nat.succ_le_of_lt hX,Nat.succ_le_of_lt hY,e2,w2,s2,DC i (by omega:i < 1000000)]

theorem MH {l:List Int} {i:Nat} (h:i < l.length) (x:Int):(l.take (i+1)).count x=(l.take i).count x+(if l[i]=x then 1 else 0):=by
 rw[List.take_add_one,List.getElem?_eq_getElem h,Option.toList_some,List.count_append,List.count_singleton]
 simp only[beq_iff_eq]
theorem UA {k:Int} {l:List Int} {i:Nat} (h:i < l.length) (h1:MF k (l.take i)) (h2:0≤l[i]∧l[i] < k):MF k (l.take (i+1)):=by
 rw[List.take_add_one,List.getElem?_eq_getElem h]
 intro x hx
 simp only[Option.toList_some,List.mem_append,List.mem_singleton] at hx
 rcases hx with hx | rfl
 ·exact h1 x hx
 ·exact h2
theorem QO {k:Int} {l:List Int} (h:MF k l) {x:Int} (hx:k≤x):l.count x=0:=by
 rw[List.count_eq_zero]
 intro hm
 have:=(h x hm).2
 omega

theorem l47 (n m fl fl' K:Nat) (h w:List Int) (hh:h.length≤10) (hw:w.length=h.length) (hK1:1≤K) (hK:K≤5):∀ (f i:Nat) (q:List Int),h.length - i < f→i≤h.length→q.length=5 →
 (∀ j,j < 5→q.getD j 0=(h.take i).count (j:Int) - (w.take i).count (j:Int))→MF K (h.take i)→MF K (w.take i) →
 Pm (Eb (n+1)) m f (sl fl h) (Int.ofNat h.length) (Int.ofNat i) (Int.ofNat K) (sl fl h) (sl fl' w) (q.map I)=some (I (UZ (MF K (h.drop i)∧MF K (w.drop i)) (UZ (vE K h w) 0 17) 2)):=by
 intro f
 induction f with
 | zero=>intro i q hi;omega
 | succ f ih =>
  intro i q hi hil hq hinv hih hiw
  show Uj (Eb (n+1)) m (Pm (Eb (n+1)) m f) _ _ _ _ _ _ _=_
  unfold Uj
  rw[Bh,kL,Ak]
  by_cases hlt:i < h.length
  ·have hlw:i < w.length:=by omega
   have e1:h.drop i=h[i]::h.drop (i+1):=List.drop_eq_getElem_cons hlt
   have e2:w.drop i=w[i]::w.drop (i+1):=List.drop_eq_getElem_cons hlw
   have hk:Aj .i64 (Int.sub (Int.ofNat K) 1)=(K:Int) - 1:=Oe _ (by show _≤(K:Int) - 1;omega) (by show (K:Int) - 1≤_;omega)
   rw[FL hlt]
   simp only[Ak,Cx,Ac,I4,GX,blt_eq,hlt,hlw,decide_true,CF,Bool.true_and,BZ,Nat.mul_one,Aja h i hlt,Aja w i hlw,BP,hk]
   rw[show (0:Int)=Int.ofNat 0 from rfl,show (Value.int IntKind.i64 (Int.ofNat 0))=I 0 from rfl,p52 n 0 (bb (AY w[i] h[i]) w[i] h[i]) ((K:Int) - 1)]
   simp only[Ac,BU]
   rw[e1,e2]
   by_cases c:(0≤h[i]∧h[i] < K)∧(0≤w[i]∧w[i] < K)
   ·have d1 : (decide (0 ≤ bb (AY w[i] h[i]) w[i] h[i]) && decide (bb (AY w[i] h[i]) w[i] h[i] ≤ (K : Int) - 1)) = true := by
     cases hc:AY w[i] h[i] <;> rw[BL] <;> simp only[Bool.and_eq_true,decide_eq_true_iff,if_true,Bool.false_eq_true,if_false] <;> exact⟨by omega,by omega⟩
    have d2:nt (AY (bb (AY h[i] w[i]) w[i] h[i]) (Int.ofNat K))=false:=by
     cases hc:AY h[i] w[i] <;> simp[JY]
     all_goals omega
    rw[d1,d2]
    simp only[Km,Bool.not_true,AA]
    obtain⟨X,hX⟩:∃ X:Nat,h[i]=Int.ofNat X:=⟨h[i].toNat,(Int.toNat_of_nonneg c.1.1).symm⟩
    obtain⟨Y,hY⟩:∃ Y:Nat,w[i]=Int.ofNat Y:=⟨w[i].toNat,(Int.toNat_of_nonneg c.2.1).symm⟩
    rw[hX,hY] at c
    simp only[Int.ofNat_eq_natCast] at c
    have hbq:∀ j,j < 5→-1000≤q.getD j 0∧q.getD j 0≤1000:=fun j hj=>by
     have:=hinv j hj
     have c1:=List.count_le_length (a:=(j:Int)) (l:=h.take i)
     have c2:=List.count_le_length (a:=(j:Int)) (l:=w.take i)
     simp only[List.length_take] at c1 c2
     omega
    rw[hX,hY,Yt _ _ _ X Y i _ _ _ _ _ q hq (by omega) (by omega) (by omega) hbq,ih (i+1) (upd q X Y) (by omega) (by omega) (by rw[WG,hq]) ?_ (UA hlt hih (by rw[hX];simp;omega)) (UA hlw hiw (by rw[hY];simp;omega))]
    ·congr 2
     refine QN ?_ _ _
     rw[Nc,Nc]
     refine⟨fun g=>⟨⟨?_,g.1⟩,?_,g.2⟩,fun g=>⟨g.1.2,g.2.2⟩⟩
     ·simp;omega
     ·simp;omega
    ·intro j hj
     rw[WH q X Y j (by omega) (by omega) (by omega),hinv j hj,MH hlt,MH hlw,hX,hY]
     have t1:(Int.ofNat X=(j:Int))↔j=X:=by simp;omega
     have t2:(Int.ofNat Y=(j:Int))↔j=Y:=by simp;omega
     simp only[t1,t2]
     split <;> split <;> simp <;> omega
   ·rw[Iy (by rw[Nc,Nc];exact fun g=>c ⟨g.1.1,g.2.1⟩)]
    by_cases d1:(decide (0≤bb (AY w[i] h[i]) w[i] h[i]) && decide (bb (AY w[i] h[i]) w[i] h[i]≤(K:Int) - 1))=true
    ·have d2 : nt (AY (bb (AY h[i] w[i]) w[i] h[i]) (Int.ofNat K)) = true := by
      cases hc:AY w[i] h[i] <;> rw[hc] at d1 <;> cases hc2:AY h[i] w[i] <;> rw[JY] at hc hc2 <;> simp only[Ak,AA,Bool.and_eq_true,decide_eq_true_iff,decide_eq_false_iff_not] at d1 hc hc2 <;> obtain⟨d1,d3⟩:=d1 <;> have d1:=of_decide_eq_true d1 <;> have d3:=of_decide_eq_true d3 <;> simp[JY] <;> omega
     rw[d1,d2];rfl
    ·rw[Bool.not_eq_true] at d1
     rw[d1];rfl
  ·have:i=h.length:=by omega
   subst this
   rw[FD hlt,AA,bV _ _ _ hq]
   rw[Hw (p:=MF _ _∧MF _ _) (by rw[List.drop_of_length_le (Nat.le_refl _),List.drop_of_length_le (by omega)];simp[MF])]
   rw[List.take_length] at hih hinv
   rw[←hw,List.take_length] at hiw hinv
   congr 2
   refine QN ⟨fun g x hx=>?_,fun g j hj=>?_⟩ _ _
   ·have h1:=hinv x (by omega)
    have h2:=g x (by omega)
    rw[List.getD_eq_getElem?_getD,List.getElem?_eq_getElem (by omega),Option.getD_some,h2] at h1
    omega
   ·have h1:=hinv j (by omega)
    rw[List.getD_eq_getElem?_getD,List.getElem?_eq_getElem hj,Option.getD_some] at h1
    rw[h1]
    by_cases hx:j < K
    ·rw[g j hx];omega
    ·rw[QO hih (by omega:(K:Int)≤(j:Int)),QO hiw (by omega:(K:Int)≤(j:Int))];rfl

theorem p47 (n fl fl':Nat) (k:Int) (h w:List Int):Eb (n+2) 47 [tr fl fl' k h w]=some (I (chk k h w)):=by
 refine Eq.trans (b := oo (Eb (n + 1) 52 [I 1, I k, I 5]) none (fun v => oo (Bf v) none fun b => bb (nt b) (some (I 1)) (bb (Bd (Int.ofNat h.length) 0) (some (I 4)) (bb (AY 10 (Int.ofNat h.length)) (some (I 3)) (bb (nt (Bd (Int.ofNat w.length) (Int.ofNat h.length))) (some (I 5))
  (Pm (Eb (n+1)) 1000000 1000000 (sl fl h) (Int.ofNat h.length) (Int.ofNat 0) k (sl fl h) (sl fl' w) (([0,0,0,0,0]:List Int).map I))))))) (by kernel_rfl) ?_
 rw[p52]
 simp only[Ac,BU]
 unfold chk
 by_cases hk:1≤k∧k≤5
 ·obtain⟨K,rfl⟩:∃ K:Nat,k=K:=⟨k.toNat,by omega⟩
  have d:(decide ((1:Int)≤K) && decide ((K:Int)≤5))=true:=by simp;omega
  rw[d,Hw hk]
  simp only[Km,Bool.not_true,AA,Lr,JY]
  by_cases h0:h.length=0
  ·rw[Hw h0];simp[h0]
  ·rw[Iy h0]
   have d3:(Int.ofNat h.length == 0)=false:=by simp;exact fun e=>h0 (by rw[e];rfl)
   by_cases h1:10 < h.length
   ·have d2:decide ((10:Int) < Int.ofNat h.length)=true:=by simp;omega
    rw[Hw h1,d2,d3];rfl
   ·have d2:decide ((10:Int) < Int.ofNat h.length)=false:=by simp;omega
    rw[Iy h1,d2,d3]
    simp only[AA]
    by_cases h2:w.length=h.length
    ·have d4:(Int.ofNat w.length == Int.ofNat h.length)=true:=by simp[h2]
     rw[Hw h2,d4]
     simp only[Bool.not_true,AA]
     have:=l47 n 1000000 fl fl' K h w (by omega) h2 (by omega) (by omega) 1000000 0 [0,0,0,0,0] (by omega) (by omega) rfl (by intro j hj;match j,hj with | 0,_=>rfl | 1,_=>rfl | 2,_=>rfl | 3,_=>rfl | 4,_=>rfl | j+5,hj=>omega) (by simp[MF]) (by simp[MF])
     rw[show ((K:Nat):Int)=Int.ofNat K from rfl,this]
     rfl
    ·have d4:(Int.ofNat w.length == Int.ofNat h.length)=false:=by simp;omega
     rw[Iy h2,d4];rfl
 ·have d:(decide ((1:Int)≤k) && decide (k≤5))=false:=by simp;omega
  rw[d,Iy hk];rfl
end Go.MnOM
set_option maxRecDepth 100000
namespace Go.MnOM
open Go.Sp Go.MnO

theorem l26 (pu:Af) (n fl fl':Nat) (l:List Int) (hl:l.length < 1000):∀ (f i:Nat),l.length - i < f→i≤l.length→QK pu n f (sl fl l) (sl fl' l) (Int.ofNat i)=some (Value.bool true):=by
 intro f
 induction f with
 | zero=>intro i h;omega
 | succ f ih =>
  intro i h hi
  show Uh pu n (QK pu n f) _ _ _=_
  unfold Uh
  by_cases hlt:i < l.length
  ·rw[I4,FL hlt]
   have:nt (Bd l[i] l[i])=false:=by simp[Lr]
   simp only[Ak,Cx,Ac,I4,GX,blt_eq,hlt,decide_true,CF,Bool.true_and,BZ,Nat.mul_one,Aja l i hlt,BP,DC i (by omega),this,AA]
   exact ih (i+1) (by omega) (by omega)
  ·rw[I4,FD hlt];rfl
theorem p26 (n fl fl':Nat) (l:List Int) (hl:l.length < 50):Eb (n+1) 26 [S fl l,S fl' l]=some (Value.bool true):=by
 refine Eq.trans (b:=bb (nt (Bd (Int.ofNat l.length) (Int.ofNat l.length))) (some (Value.bool false)) (QK (Eb n) 1000000 1000000 (sl fl l) (sl fl' l) (Int.ofNat 0))) (by kernel_rfl) ?_
 have:nt (Bd (Int.ofNat l.length) (Int.ofNat l.length))=false:=by simp[Lr]
 rw[this,AA]
 exact l26 (Eb n) 1000000 fl fl' l (by omega) 1000000 0 (by omega) (by omega)

noncomputable def exg (a b:Int) (N:Nat):Int:=UZ (0≤a∧a < N∧0≤b∧b < N) (UZ (a < b) 0 7) 2
theorem WI (pu:Af) (n:Nat) (a b:Int) (c:Bool):OQ pu n a b c=some (I (bb c 2 (UZ (a < b) 0 7))):=by
 unfold OQ
 cases c with
 | true=>rfl
 | false =>
  by_cases h:a < b
  ·have:nt (AY a b)=false:=by simp[JY,h]
   rw[this,Hw h];rfl
  ·have:nt (AY a b)=true:=by simp[JY];omega
   rw[this,Iy h];rfl
theorem Acs (a b:Int):bb (AY b a) b a=min a b:=by
 by_cases h:b < a
 ·have:AY b a=true:=by simp[JY,h]
  rw[this,Ak];omega
 ·have:AY b a=false:=by simp[JY];omega
  rw[this,AA];omega
theorem gZ (a b:Int):bb (AY a b) b a=max a b:=by
 by_cases h:a < b
 ·have:AY a b=true:=by simp[JY,h]
  rw[this,Ak];omega
 ·have:AY a b=false:=by simp[JY];omega
  rw[this,AA];omega
theorem tC {x y:Int}:(AY x y=true↔x < y):=by rw[JY,decide_eq_true_iff]
theorem bW {x y:Int}:(AY x y=false↔¬ x < y):=by rw[JY,decide_eq_false_iff_not]
theorem p57 (n fl fl':Nat) (k a b:Int) (h w:List Int):Eb (n+1) 57 [tr fl fl' k h w,I a,I b]=some (I (exg a b h.length)):=by
 refine Eq.trans (b:=bb (AY (bb (AY b a) b a) 0) (OQ (Eb n) 1000000 a b true) (OQ (Eb n) 1000000 a b (nt (AY (bb (AY a b) b a) (Int.ofNat h.length))))) (by kernel_rfl) ?_
 rw[WI,WI,Acs,gZ]
 unfold exg
 by_cases c:0≤a∧a < h.length∧0≤b∧b < h.length
 ·have d1:AY (min a b) 0=false:=bW.2 (by omega)
  have d2:AY (max a b) (Int.ofNat h.length)=true:=tC.2 (by show max a b < (h.length:Int);omega)
  rw[Hw c,d1,d2];rfl
 ·rw[Iy c]
  by_cases d1:min a b < 0
  ·rw[tC.2 d1];rfl
  ·have d2:AY (max a b) (Int.ofNat h.length)=false:=bW.2 (by show ¬ max a b < (h.length:Int);omega)
   rw[bW.2 d1,d2];rfl
def swp (h:List Int) (A B:Nat):List Int:=(h.set A (h.getD B 0)).set B (h.getD A 0)
theorem O3 (h:List Int) (A B:Nat):(swp h A B).length=h.length:=by simp[swp]
theorem JN {n:Nat} (h:n≤1000):EQ n 8=true:=by
 unfold EQ;rw[ble_eq];simp;omega
theorem Acu (l:List Int):Aq (l.length*1) (l.map I)=l.map I:=by rw[Cg,Nat.mul_one,List.take_of_length_le (by simp)]
theorem Yu (l:List Int) (n:Nat) (h:n=l.length):Aq (n*1) (Am 0 (l.map I))=l.map I:=by rw[h,Bz,List.drop_zero,Acu]
theorem Acv (l:List Int):List.take l.length (l.map I)=l.map I:=List.take_of_length_le (by simp)
theorem Yv (l:List Int) (i:Nat) (h:i < l.length):(l.map I)[i]?=some (I (l.getD i 0)):=by rw[Aja l i h];simp[h]

theorem p43 (n fl fl' A B:Nat) (k:Int) (h w:List Int) (hh:h.length≤1000) (hw:w.length≤1000) (hA:A < h.length) (hB:B < h.length) :
 Eb (n+1) 43 [tr fl fl' k h w,I (Int.ofNat A),I (Int.ofNat B)]=some (tr 0 0 k (swp h A B) w):=by
 have e:Eb (n+1) 43 [tr fl fl' k h w,I (Int.ofNat A),I (Int.ofNat B)]=bN (Eb n) 1000000 k (sl fl h) (sl fl' w) (Int.ofNat A) (Int.ofNat B):=by kernel_rfl
 rw[e]
 unfold bN
 have r1:EQ (0+h.length) 8=true:=JN (by omega)
 have r2:EQ (0+w.length) 8=true:=JN (by omega)
 have s1:BM ([I (h.getD B 0)]:List Value) A (h.map I)=(h.set A (h.getD B 0)).map I:=by rw[HY _ _ _ (by simpa using hA),List.map_set]
 have s2:BM ([I (h.getD A 0)]:List Value) B ((h.set A (h.getD B 0)).map I)=(swp h A B).map I:=by rw[HY _ _ _ (by simpa using hB),←List.map_set];rfl
 simp only[I4,GX,r1,r2,Ak,Bh,Acv,Cg,Nat.mul_one,kL,Cx,Ac,blt_eq,hA,hB,decide_true,CF,Bool.true_and,Bool.and_true,BZ,Nat.zero_add,Nat.mul_one,Yv h A hA,Yv h B hB,BP,s1,s2,ble_eq,AV,List.length_map,List.length_set,O3,Nat.succ_le_of_lt hA,Nat.succ_le_of_lt hB,Bz,List.drop_zero,Cg,Nat.le_refl]
 have t1:List.take h.length ((swp h A B).map I)=(swp h A B).map I:=List.take_of_length_le (by simp[O3])
 have t2:List.take w.length (w.map I)=w.map I:=List.take_of_length_le (by simp)
 have r3:EQ h.length 8=true:=JN (by omega)
 have r4:EQ w.length 8=true:=JN (by omega)
 simp only[r3,r4,t1,t2,kL,Ak]
 unfold tr S sl
 rw[O3]

end Go.MnOM
set_option maxRecDepth 100000
namespace Go.MnOM
open Go.Sp Go.MnO

def wr:List Int→List Int→Nat→List Int
 | x::h,y::w,i=>if x=y then wr h w (i+1) else (i:Int)::wr h w (i+1)
 | _,_,_=>[]
def bv:List Int→List Int→Nat
 | x::h,y::w=>(if x=y then 0 else 1)+2*bv h w
 | _,_=>0
theorem Yw:∀ (h w:List Int),bv h w < 2 ^ h.length
 | [],w=>by simp[bv]
 | x::h,[]=>by simp[bv];exact Nat.two_pow_pos _
 | x :: h, y :: w => by
  have:=Yw h w
  simp only[bv,List.length_cons,Nat.pow_succ]
  split <;> omega
def bl:Nat→Nat→Nat→List Int
 | 0,_,_=>[]
 | f+1,i,s=>if s % 2=1 then (i:Int)::bl f (i+1) (s / 2) else bl f (i+1) (s / 2)
noncomputable def eqS (o:Option Value) (l:List Int):Bool:=oo o false fun v=>oo (Bj 1 v) false fun s=>an (Nat.beq s.n (len l)) (an (Nat.beq s.fl 0) (FE s.cs (AP I l)))
theorem tF {o:Option Value} {l:List Int} (h:eqS o l=true):o=some (S 0 l):=by
 unfold eqS at h
 cases o with
 | none=>cases h
 | some v =>
  rw[Ac] at h
  cases hs:Bj 1 v with
  | none=>rw[hs] at h;cases h
  | some s =>
   rw[hs,Ac] at h
   obtain⟨h1,h2⟩:=Av h
   obtain⟨h3,h4⟩:=Av h2
   have g1:s.n=len l:=Nat.eq_of_beq_eq_true h1
   have g2:s.fl=0:=Nat.eq_of_beq_eq_true h3
   have g3:s.cs=AP I l:=LB h4
   rw[Qh hs]
   have:s=sl 0 l:=by
    cases s
    rw[AV] at g1
    rw[Hl] at g3
    simp only at g1 g2 g3
    rw[g1,g2,g3];rfl
   rw[this];rfl
theorem Acw (n:Nat):NL (fun s=>eqS (Eb (n+2) 62 [.int .u16 (Int.ofNat s)]) (bl 10 0 s)) 1024=true:=by kernel_rfl
theorem p62 (n s:Nat) (hs:s < 1024):Eb (n+2) 62 [.int .u16 (Int.ofNat s)]=some (S 0 (bl 10 0 s)):=tF (Rp (Acw n) s hs)

theorem tH (Z i:Nat) (hZ:Z < 2 ^ i) (hi:i < 10):jF .u16 (Int.ofNat Z) (QW .u16 1 i)=Int.ofNat (Z+2 ^ i):=by
 have e1:QW .u16 1 i=Int.ofNat (2 ^ i):=by
  match i,hi with
  | 0,_=>rfl | 1,_=>rfl | 2,_=>rfl | 3,_=>rfl | 4,_=>rfl | 5,_=>rfl | 6,_=>rfl | 7,_=>rfl | 8,_=>rfl | 9,_=>rfl
  | i+10,h=>omega
 rw[e1]
 have h2:2 ^ i≤2 ^ 9:=Nat.pow_le_pow_right (by omega) (by omega)
 have e2:Nl .u16 Z (2 ^ i)=true:=by
  unfold Nl
  have:GA .u16=65535:=rfl
  rw[this,ble_eq,ble_eq];simp;omega
 show bb (Nl .u16 Z (2 ^ i)) (Int.ofNat (Nat.lor Z (2 ^ i))) _=_
 rw[e2,Ak]
 have:=Nat.two_pow_add_eq_or_of_lt hZ 1
 rw[Nat.mul_one] at this
 have h3:Nat.lor Z (2 ^ i)=2 ^ i ||| Z:=Nat.or_comm Z (2 ^ i)
 rw[h3,←this];congr 1;omega

theorem l51 (pu:Af) (n fl fl':Nat) (k:Int) (h w:List Int) (hh:h.length≤10) (hw:w.length=h.length):∀ (f i Z:Nat),h.length - i < f→i≤h.length→Z < 2 ^ i →
 Po pu n f (Int.ofNat Z) (sl fl h) (Int.ofNat h.length) (Int.ofNat i) k (sl fl h) (sl fl' w)=some (.int .u16 (Int.ofNat (Z+2 ^ i*bv (h.drop i) (w.drop i)))):=by
 intro f
 induction f with
 | zero=>intro i Z hi;omega
 | succ f ih =>
  intro i Z hi hil hZ
  show Uq pu n (Po pu n f) _ _ _ _ _ _ _=_
  unfold Uq
  by_cases hlt:i < h.length
  ·have hlw:i < w.length:=by omega
   have e1:h.drop i=h[i]::h.drop (i+1):=List.drop_eq_getElem_cons hlt
   have e2:w.drop i=w[i]::w.drop (i+1):=List.drop_eq_getElem_cons hlw
   rw[FL hlt]
   simp only[Ak,Cx,Ac,I4,GX,blt_eq,hlt,hlw,decide_true,CF,Bool.true_and,BZ,Nat.mul_one,Aja h i hlt,Aja w i hlw,BP,Uo,DC i (by omega:i < 1000000),tH Z i hZ (by omega)]
   rw[e1,e2]
   have hp:2 ^ (i+1)=2*2 ^ i:=by rw[Nat.pow_succ];omega
   by_cases hx:h[i]=w[i]
   ·have:nt (Bd h[i] w[i])=false:=by simp[Lr,hx]
    rw[this,AA,ih (i+1) Z (by omega) (by omega) (by omega)]
    simp only[bv,if_pos hx]
    congr 3
    rw[hp,Nat.zero_add,Nat.mul_comm 2 (2 ^ i),Nat.mul_assoc]
   ·have:nt (Bd h[i] w[i])=true:=by simp[Lr,hx]
    rw[this,Ak,ih (i+1) (Z+2 ^ i) (by omega) (by omega) (by omega)]
    simp only[bv,if_neg hx]
    congr 3
    rw[hp,Nat.mul_add,Nat.mul_one,Nat.mul_comm 2 (2 ^ i),Nat.mul_assoc];omega
  ·have:i=h.length:=by omega
   subst this
   rw[FD hlt,AA,List.drop_of_length_le (Nat.le_refl _)]
   simp[bv,Un]
theorem p51 (n fl fl':Nat) (k:Int) (h w:List Int) (hh:h.length≤10) (hw:w.length=h.length):Eb (n+1) 51 [tr fl fl' k h w]=some (.int .u16 (Int.ofNat (bv h w))):=by
 refine Eq.trans (b:=Po (Eb n) 1000000 1000000 (Int.ofNat 0) (sl fl h) (Int.ofNat h.length) (Int.ofNat 0) k (sl fl h) (sl fl' w)) (by kernel_rfl) ?_
 rw[l51 (Eb n) 1000000 fl fl' k h w hh hw 1000000 0 0 (by omega) (by omega) (by simp)]
 simp

theorem iB (l:List Int) (h:l.length < 1000):GV 1 8 l.length (2*l.length) 1 (l.map I)=true:=by
 unfold GV
 have e:(2*l.length) / 2=l.length:=by omega
 have e2:(2*l.length) % 2=0:=by omega
 rw[e,e2,JN (by omega)]
 have b1:Nat.ble (l.length+1) l.length=false:=by rw[ble_eq];simp
 have b2:Nat.ble (0+l.length*1) (len (l.map I))=true:=by rw[ble_eq];simp
 have b3:Nat.beq (0+l.length*1) (len (l.map I))=true:=by simp
 rw[b1,b2,b3];rfl
end Go.MnOM
namespace Go.MdM
section
variable (N:Nat) (H W:Nat→Int)
abbrev Bn:=Nat→Bool
def els (S:Bn):List Nat:=(List.range N).filter S
def cn (S:Bn) (f:Nat→Int) (x:Int):Nat:=(List.range N).countP (fun i=>S i && f i == x)
def card (S:Bn):Nat:=(List.range N).countP S
def Bp (S:Bn):Prop:=∀ x,cn N S H x=cn N S W x
def del (S:Bn) (i:Nat):Bn:=fun j=>S j && !(j == i)
def rem (S:Bn) (l:List Nat):Bn:=fun j=>S j && !(l.contains j)
def mx (l:List Nat):Nat:=l.foldl max 0
noncomputable def one (p:Prop):Nat:=@ite _ p (Classical.propDecidable p) 1 0
noncomputable def Bq:Nat→Bn→Nat
 | 0,_=>0
 | k+1,S=>mx ((els N S).map fun i=>Bq k (del S i))+one (Bp N H W S)
noncomputable def M (S:Bn):Nat:=Bq N H W (card N S) S
end
variable {N:Nat} {H W:Nat→Int}
theorem UB {p:Prop} (h:p):one p=1:=if_pos h
theorem UC {p:Prop} (h:¬ p):one p=0:=if_neg h
theorem V4 (p:Prop):one p≤1:=by by_cases h:p;rw[UB h];exact Nat.le_refl _;rw[UC h];exact Nat.zero_le _
theorem Eo {S:Bn} {i:Nat}:i∈els N S↔i < N∧S i=true:=by simp[els]
theorem bX (l:List Nat) (a:Nat):l.foldl max a=max a (mx l):=by
 unfold mx
 induction l generalizing a with
 | nil=>simp
 | cons b l ih=>simp only[List.foldl_cons];rw[ih,ih (max 0 b)];omega
theorem Sm (a:Nat) (l:List Nat):mx (a::l)=max a (mx l):=by
 show List.foldl max (max 0 a) l=_
 rw[bX];omega
theorem iC {l:List Nat} {b:Nat} (h:∀ a∈l,a≤b):mx l≤b:=by
 induction l with
 | nil=>exact Nat.zero_le _
 | cons a l ih =>
  rw[Sm]
  have:=h a (by simp)
  have:=ih (fun x hx=>h x (by simp[hx]))
  omega
theorem WJ {l:List Nat} {a:Nat} (h:a∈l):a≤mx l:=by
 induction l with
 | nil=>cases h
 | cons b l ih =>
  rw[Sm]
  rcases List.mem_cons.1 h with rfl | h
  ·omega
  ·have:=ih h;omega
theorem Sn {l:List Nat} (h:mx l≠0):mx l∈l:=by
 induction l with
 | nil=>exact absurd rfl h
 | cons b l ih =>
  rw[Sm] at h ⊢
  by_cases hb:mx l≤b
  ·rw[show max b (mx l)=b by omega];simp
  ·have:=ih (by omega)
   rw[show max b (mx l)=mx l by omega];simp[this]
theorem countP_split {l:List Nat} {p q r:Nat→Bool} (h:∀ i∈l,p i=(q i || r i)) (hd:∀ i∈l,¬ (q i=true∧r i=true)):l.countP p=l.countP q+l.countP r:=by
 induction l with
 | nil=>rfl
 | cons a l ih =>
  have h1:=h a (by simp)
  have h2:=hd a (by simp)
  have:=ih (fun i hi=>h i (by simp[hi])) (fun i hi=>hd i (by simp[hi]))
  simp only[List.countP_cons,this]
  cases hq:q a <;> cases hr:r a <;> simp[hq,hr] at h1 h2 <;> simp[h1] <;> omega
theorem Jg {S A B:Bn} (f:Nat→Int) (x:Int) (h:∀ i,i < N→S i=(A i || B i)) (hd:∀ i,i < N→¬ (A i=true∧B i=true)):cn N S f x=cn N A f x+cn N B f x:=by
 unfold cn
 apply countP_split
 ·intro i hi
  rw[h i (by simpa using hi)]
  cases A i <;> cases B i <;> simp
 ·intro i hi hc
  exact hd i (by simpa using hi) (by simp at hc;exact⟨hc.1.1,hc.2.1⟩)
theorem PI {S A B:Bn} (h:∀ i,i < N→S i=(A i || B i)) (hd:∀ i,i < N→¬ (A i=true∧B i=true)):card N S=card N A+card N B:=by
 unfold card
 apply countP_split
 ·intro i hi;exact h i (by simpa using hi)
 ·intro i hi;exact hd i (by simpa using hi)
theorem PK (N i:Nat) (h:i < N) (p:Nat→Bool):(List.range N).countP (fun j=>(j == i) && p j)=if p i then 1 else 0:=by
 induction N with
 | zero=>omega
 | succ n ih =>
  rw[List.range_succ,List.countP_append]
  by_cases hi:i < n
  ·rw[ih hi]
   have:(n == i)=false:=by simp;omega
   simp[this]
  ·have:i=n:=by omega
   subst this
   have:(List.range i).countP (fun j=>(j == i) && p j)=0:=by
    rw[List.countP_eq_zero];intro a ha;simp at ha;simp;intro h;omega
   rw[this];simp
theorem Gv {S:Bn} {i:Nat} (hi:i < N) (hs:S i=true) (f:Nat→Int) (x:Int):cn N S f x=cn N (del S i) f x+if f i=x then 1 else 0:=by
 rw[Jg (A:=del S i) (B:=fun j=>j == i) f x]
 ·unfold cn
  rw[PK N i hi (fun j=>f j == x)]
  by_cases e:f i=x <;> simp[e]
 ·intro j hj;unfold del;by_cases h:j=i
  ·subst h;simp[hs]
  ·simp only[beq_eq_false_iff_ne.2 h,Bool.not_false,Bool.and_true,Bool.or_false]
 ·intro j hj;simp[del]
theorem FM {S:Bn} {i:Nat} (hi:i < N) (hs:S i=true):card N S=card N (del S i)+1:=by
 rw[PI (A:=del S i) (B:=fun j=>j == i)]
 ·congr 1;unfold card
  have:=PK N i hi (fun j=>true)
  simpa using this
 ·intro j hj;unfold del;by_cases h:j=i
  ·subst h;simp[hs]
  ·simp only[beq_eq_false_iff_ne.2 h,Bool.not_false,Bool.and_true,Bool.or_false]
 ·intro j hj;simp[del]
theorem Gu {S:Bn} (h:card N S=0):∀ i,i < N→S i=false:=by
 intro i hi
 unfold card at h
 rw[List.countP_eq_zero] at h
 simpa using h i (by simpa using hi)
theorem K7 {S:Bn} {i:Nat} (hi:i < N) (hs:S i=true):0 < card N S:=by
 have:=FM hi hs;omega
theorem Gs (S:Bn):(els N S).length=card N S:=by unfold els card;rw[List.countP_eq_length_filter]

theorem Sq (S:Bn) (h:card N S≠0):M N H W S=mx ((els N S).map fun i=>M N H W (del S i))+one (Bp N H W S):=by
 obtain⟨k,hk⟩:=Nat.exists_eq_succ_of_ne_zero h
 unfold M
 rw[hk]
 show mx ((els N S).map fun i=>Bq N H W k (del S i))+_=_
 congr 2
 apply List.map_congr_left
 intro i hi
 have:=Eo.1 hi
 have:=FM this.1 this.2
 rw[show card N (del S i)=k by omega]
theorem I8 {S:Bn} (h:card N S=0):M N H W S=0:=by unfold M;rw[h];rfl
theorem iD {S:Bn} {i:Nat} (hi:i < N) (hs:S i=true):M N H W (del S i)≤M N H W S:=by
 rw[Sq S (by have:=K7 hi hs;omega)]
 have:=WJ (List.mem_map.2 ⟨i,Eo.2 ⟨hi,hs⟩,rfl⟩:M N H W (del S i)∈(els N S).map fun i=>M N H W (del S i))
 omega
theorem Yx {S:Bn} {i:Nat} (hi:i < N) (hs:S i=true) (he:Bp N H W S):M N H W (del S i)+1≤M N H W S:=by
 rw[Sq S (by have:=K7 hi hs;omega),UB he]
 have:=WJ (List.mem_map.2 ⟨i,Eo.2 ⟨hi,hs⟩,rfl⟩:M N H W (del S i)∈(els N S).map fun i=>M N H W (del S i))
 omega
def Nf (N:Nat) (A B:Bn):Prop:=∀ i,i < N→A i=true→B i=true
theorem LW {A B:Bn} (h:∀ i,i < N→A i=B i):els N A=els N B:=by
 unfold els;apply List.filter_congr;intro i hi;exact h i (by simpa using hi)
theorem FN {A B:Bn} (h:∀ i,i < N→A i=B i):card N A=card N B:=by rw[←Gs,←Gs,LW h]
theorem K8 {A B:Bn} (h:∀ i,i < N→A i=B i) (f:Nat→Int) (x:Int):cn N A f x=cn N B f x:=by
 unfold cn;apply List.countP_congr;intro i hi;rw[h i (by simpa using hi)]
theorem K9 {A B:Bn} (h:∀ i,i < N→A i=B i):Bp N H W A↔Bp N H W B:=by
 unfold Bp;constructor <;> intro g x
 ·rw[←K8 h,←K8 h];exact g x
 ·rw[K8 h,K8 h];exact g x
theorem OE {A B:Bn} (h:∀ i,i < N→A i=B i) (k:Nat):∀ i,i < N→del A k i=del B k i:=by intro i hi;unfold del;rw[h i hi]
theorem UD:∀ (k:Nat) {A B:Bn},(∀ i,i < N→A i=B i)→Bq N H W k A=Bq N H W k B
 | 0,_,_,_=>rfl
 | k + 1, A, B, h => by
  unfold Bq
  rw[LW h,show one (Bp N H W A)=one (Bp N H W B) by rw[propext (K9 h)]]
  congr 2
  apply List.map_congr_left
  intro i hi
  exact UD k (OE h i)
theorem G5 {A B:Bn} (h:∀ i,i < N→A i=B i):M N H W A=M N H W B:=by unfold M;rw[FN h];exact UD _ h
theorem Nf.card {A B:Bn} (h:Nf N A B):card N B=card N A+card N (fun i=>B i && !A i):=by
 apply PI
 ·intro i hi;have:=h i hi;cases hA:A i <;> cases hB:B i <;> simp_all
 ·intro i hi;simp;intro h1 _;exact h1
theorem Nf.eq {A B:Bn} (h:Nf N A B) (hc:Go.MdM.card N B≤Go.MdM.card N A):∀ i,i < N→A i=B i:=by
 have:=h.card
 have h0:=Gu (show Go.MdM.card N (fun i=>B i && !A i)=0 by omega)
 intro i hi
 have:=h0 i hi;have:=h i hi
 cases hA:A i <;> cases hB:B i <;> simp_all
theorem Nf.ex {A B:Bn} (h:Nf N A B) (hc:Go.MdM.card N A < Go.MdM.card N B):∃ i,i < N∧B i=true∧A i=false:=by
 apply Classical.byContradiction
 intro hn
 have:Go.MdM.card N B=Go.MdM.card N A:=FN (fun i hi=>by
  have:=h i hi
  cases hA:A i <;> cases hB:B i <;> simp_all)
 omega
theorem tJ:∀ (d:Nat) {A B:Bn},Nf N A B→card N B≤card N A+d→M N H W A≤M N H W B:=by
 intro d
 induction d with
 | zero=>intro A B h hc;rw[G5 (h.eq (by omega))];exact Nat.le_refl _
 | succ d ih =>
  intro A B h hc
  by_cases hl:card N A < card N B
  ·obtain⟨i,hi,hb,ha⟩:=h.ex hl
   have:=FM hi hb
   have h2:Nf N A (del B i):=by
    intro j hj hA;unfold del
    have:=h j hj hA
    by_cases e:j=i
    ·subst e;rw[hA] at ha;cases ha
    ·simp[this,e]
   exact Nat.le_trans (ih h2 (by omega)) (iD hi hb)
  ·exact ih h (by omega)
theorem Nf.M {A B:Bn} (h:Nf N A B):M N H W A≤M N H W B:=tJ (Go.MdM.card N B) h (by omega)
theorem OG {A B:Bn} {i:Nat} (h:Nf N A B) (hi:i < N) (hb:B i=true) (ha:A i=false) (he:Bp N H W B):M N H W A+1≤M N H W B:=by
 have h2:Nf N A (del B i):=by
  intro j hj hA;unfold del
  have:=h j hj hA
  by_cases e:j=i
  ·subst e;rw[hA] at ha;cases ha
  ·simp[this,e]
 exact Nat.le_trans (Nat.succ_le_succ h2.M) (Yx hi hb he)
theorem Ng {A B:Bn} (h:Nf N A B) (ha:Bp N H W A) (hb:Bp N H W B):Bp N H W (fun i=>B i && !A i):=by
 intro x
 have s:∀ f:Nat→Int,cn N B f x=cn N A f x+cn N (fun i=>B i && !A i) f x:=by
  intro f
  apply Jg
  ·intro i hi;have:=h i hi;cases hA:A i <;> cases hB:B i <;> simp_all
  ·intro i hi;simp;intro h1 _;exact h1
 have:=s H;have:=s W;have:=ha x;have:=hb x
 omega
theorem AdR:∀ (k:Nat) (S:Bn),card N S≤k→∃ T,Nf N T S∧Bp N H W T∧M N H W T=M N H W S:=by
 intro k
 induction k with
 | zero =>
  intro S h
  have h0:=Gu (show card N S=0 by omega)
  refine⟨S,fun _ _ h=>h,?_,rfl⟩
  intro x
  have:∀ f,cn N S f x=0:=by
   intro f;unfold cn;rw[List.countP_eq_zero];intro i hi;rw[h0 i (by simpa using hi)];simp
  rw[this,this]
 | succ k ih =>
  intro S h
  by_cases he:Bp N H W S
  ·exact⟨S,fun _ _ h=>h,he,rfl⟩
  ·by_cases hz:card N S=0
   ·exact ih S (by omega)
   have hM:=Sq (H:=H) (W:=W) S hz
   rw[UC he,Nat.add_zero] at hM
   by_cases h0:mx ((els N S).map fun i=>M N H W (del S i))=0
   ·rw[h0] at hM
    refine⟨fun _=>false,fun i _ h=>(by cases h),fun x=>by simp[cn],?_⟩
    rw[hM];exact I8 (by simp[card])
   ·obtain⟨i,hi,hm⟩:=List.mem_map.1 (Sn h0)
    obtain⟨hi,hs⟩:=Eo.1 hi
    have:=FM hi hs
    obtain⟨T,hT,hE,e⟩:=ih (del S i) (by omega)
    refine⟨T,fun j hj h=>?_,hE,by rw[e,hM,←hm]⟩
    have:=hT j hj h
    unfold del at this
    simp at this;exact this.1
end Go.MdM
namespace Go.MdM
section
variable (N:Nat) (H W:Nat→Int)
def BB (Q:Bn→Prop) (f:Nat):Bn→Nat→List Nat→Prop
 | R,last,[]=>W last=H f∧Q R
 | R,last,i::e=>i < N∧R i=true∧H i=W last∧BB Q f (del R i) i e
def llt:List Nat→List Nat→Prop
 | [],_::_=>True
 | a::x,b::y=>a < b∨(a=b∧llt x y)
 | _,[]=>False
noncomputable def OH (Q:Bn→Prop) (f:Nat):Nat→Bn→Nat→Option (List Nat)
 | 0,_,_=>none
 | k+1,R,last=>@ite _ (W last=H f∧Q R) (Classical.propDecidable _) (some []) ((els N R).findSome? fun i=>if H i=W last then (OH Q f k (del R i) i).map (i :: ·) else none)
def BI:Bn→List (List Nat)→Prop
 | S,[]=>∀ i,i < N→S i=false
 | S,r::L=>∃ f e,r=f::e∧(f < N∧S f=true∧∀ j,j < f→S j=false)∧BB N H W (fun _=>True) f (del S f) f e∧BI (rem S r) L
def Qs (S:Bn):Bn→Prop:=fun R=>Bp N H W R∧M N H W R+1=M N H W S
noncomputable def gr:Nat→Bn→List (List Nat)
 | 0,_=>[]
 | k + 1, S => match els N S with
  | []=>[]
  | f::_=>(f::(OH N H W (Qs N H W S) f (card N S+1) (del S f) f).getD [])::gr k (rem S (f::(OH N H W (Qs N H W S) f (card N S+1) (del S f) f).getD []))
def bef:List (List Nat)→List (List Nat)→Prop
 | a::x,b::y=>llt a b∨(a=b∧bef x y)
 | _,_=>False
end
variable {N:Nat} {H W:Nat→Int}
theorem WK (R:Bn):rem R []=R:=by funext j;simp[rem]
theorem Kc (R:Bn) (i:Nat) (e:List Nat):rem R (i::e)=rem (del R i) e:=by
 funext j;simp only[rem,del,List.contains_cons]
 cases R j <;> cases j == i <;> cases e.contains j <;> rfl
theorem PM {Q : Bn → Prop} {f : Nat} : ∀ (e : List Nat) (R : Bn) (last : Nat), BB N H W Q f R last e ↔ BB N H W (fun _ => True) f R last e ∧ Q (rem R e)
 | [],R,last=>by rw[WK];simp[BB]
 | i :: e, R, last => by
  rw[Kc]
  have:=PM (Q:=Q) (f:=f) e (del R i) i
  simp only[BB,this,and_assoc]
theorem PN {Q:Bn→Prop} {f:Nat}:∀ (e:List Nat) (R:Bn) (last:Nat),BB N H W Q f R last e→∀ i∈e,i < N∧R i=true
 | [],_,_,_,i,h=>by cases h
 | j :: e, R, last, hr, i, h => by
  obtain⟨h1,h2,_,h4⟩:=hr
  rcases List.mem_cons.1 h with rfl | h
  ·exact⟨h1,h2⟩
  ·have:=PN e _ _ h4 i h
   unfold del at this
   simp at this;exact⟨this.1,this.2.1⟩
theorem PO {Q:Bn→Prop} {f:Nat}:∀ (e:List Nat) (R:Bn) (last:Nat),BB N H W Q f R last e→e.Nodup
 | [],_,_,_=>List.nodup_nil
 | j :: e, R, last, hr => by
  obtain⟨h1,h2,_,h4⟩:=hr
  rw[List.nodup_cons]
  refine⟨fun h=>?_,PO e _ _ h4⟩
  have:=PN e _ _ h4 j h
  simp[del] at this
theorem Sr {Q Q':Bn→Prop} {f:Nat} {D:Bn}:∀ (e:List Nat) (R R':Bn) (last:Nat),(∀ i,i < N→R' i=(R i || D i))→(∀ i,i < N→¬ (R i=true∧D i=true)) →
 (∀ X X':Bn,Nf N X R→(∀ i,i < N→X' i=(X i || D i))→(∀ i,i < N→¬ (X i=true∧D i=true))→Q X→Q' X')→BB N H W Q f R last e→BB N H W Q' f R' last e
 | [],R,R',last,h1,h2,h3,hr=>⟨hr.1,h3 R R' (fun _ _ h=>h) h1 h2 hr.2⟩
 | i :: e, R, R', last, h1, h2, h3, hr => by
  obtain⟨g1,g2,g3,g4⟩:=hr
  refine⟨g1,by rw[h1 i g1,g2];rfl,g3,Sr (D:=D) e (del R i) (del R' i) i ?_ ?_ ?_ g4⟩
  ·intro j hj;unfold del;rw[h1 j hj]
   have:=h2 i g1
   by_cases e:j=i
   ·subst e;rw[g2] at this;simp at this;simp[this]
   ·simp only[beq_eq_false_iff_ne.2 e,Bool.not_false,Bool.and_true]
  ·intro j hj hc;unfold del at hc;simp at hc;exact h2 j hj ⟨hc.1.1,hc.2⟩
  ·intro X X' hs;exact h3 X X' (fun j hj h=>by have:=hs j hj h;unfold del at this;simp at this;exact this.1)
theorem Yy {f:Nat}:∀ (e:List Nat) (R:Bn) (last:Nat),BB N H W (Bp N H W) f R last e→∀ x,cn N R H x+(if H f=x then 1 else 0)=cn N R W x+(if W last=x then 1 else 0)
 | [],R,last,hr,x=>by rw[hr.1,hr.2 x]
 | i :: e, R, last, hr, x => by
  obtain⟨g1,g2,g3,g4⟩:=hr
  have:=Yy e _ _ g4 x
  rw[Gv g1 g2 H x,Gv g1 g2 W x,g3]
  omega
theorem bY {f:Nat}:∀ (k:Nat) (R:Bn) (last:Nat),card N R≤k→(∀ x,cn N R H x+(if H f=x then 1 else 0)=cn N R W x+(if W last=x then 1 else 0))→∃ e,BB N H W (Bp N H W) f R last e:=by
 intro k
 induction k with
 | zero =>
  intro R last hk hb
  have h0:=Gu (show card N R=0 by omega)
  have hc:∀ (g:Nat→Int) x,cn N R g x=0:=by
   intro g x;unfold cn;rw[List.countP_eq_zero];intro i hi;rw[h0 i (by simpa using hi)];simp
  refine⟨[],?_,fun x=>by rw[hc,hc]⟩
  have:=hb (W last)
  rw[hc,hc] at this
  by_cases h:H f=W last
  ·exact h.symm
  ·simp[h] at this
 | succ k ih =>
  intro R last hk hb
  by_cases h:W last=H f
  ·refine⟨[],h,fun x=>?_⟩
   have:=hb x
   rw[h] at this;omega
  ·have:=hb (W last)
   simp only[if_true,Ne.symm h,if_false] at this
   have hp:0 < cn N R H (W last):=by omega
   unfold cn at hp
   rw[List.countP_pos_iff] at hp
   obtain⟨i,hi,hp⟩:=hp
   have hi:i < N:=by simpa using hi
   simp at hp
   obtain⟨hr,hh⟩:=hp
   have:=FM hi hr
   obtain ⟨e, he⟩ := ih (del R i) i (by omega) (by
    intro x
    have:=hb x
    rw[Gv hi hr H x,Gv hi hr W x,hh] at this
    omega)
   exact⟨i::e,hi,hr,hh,he⟩
theorem UE {A B S:Bn} (h:∀ i,i < N→S i=(A i || B i)) (hd:∀ i,i < N→¬ (A i=true∧B i=true)) (ha:Bp N H W A) (hb:Bp N H W B):Bp N H W S:=by
 intro x;rw[Jg H x h hd,Jg W x h hd,ha x,hb x]
theorem QR:∀ (k:Nat) (S:Bn) (f:Nat),card N S≤k→Bp N H W S→f < N→S f=true→∃ e,BB N H W (Qs N H W S) f (del S f) f e:=by
 intro k
 induction k with
 | zero=>intro S f hk he hf hs;have:=K7 hf hs;omega
 | succ k ih =>
  intro S f hk he hf hs
  have hM:=Sq (H:=H) (W:=W) S (Nat.ne_of_gt (K7 hf hs))
  rw[UB he] at hM
  have hi:∃ i,i < N∧S i=true∧M N H W (del S i)+1=M N H W S:=by
   by_cases h0:mx ((els N S).map fun i=>M N H W (del S i))=0
   ·refine⟨f,hf,hs,?_⟩
    have:=WJ (List.mem_map.2 ⟨f,Eo.2 ⟨hf,hs⟩,rfl⟩:M N H W (del S f)∈(els N S).map fun i=>M N H W (del S i))
    omega
   ·obtain⟨i,hi,hm⟩:=List.mem_map.1 (Sn h0)
    obtain⟨hi,hs⟩:=Eo.1 hi
    exact⟨i,hi,hs,by rw[hM,←hm]⟩
  obtain⟨i,hi,hsi,hMi⟩:=hi
  obtain⟨T,hT,hTe,hTM⟩:=AdR (H:=H) (W:=W) (card N (del S i)) (del S i) (Nat.le_refl _)
  have hTi:T i=false:=by
   cases h:T i
   ·rfl
   ·have:=hT i hi h;simp[del] at this
  have hTS:Nf N T S:=by intro j hj h;have:=hT j hj h;simp[del] at this;exact this.1
  have huni:∀ j,j < N→S j=(T j || (S j && !T j)):=by
   intro j hj;have:=hTS j hj;cases h1:T j <;> cases h2:S j <;> simp_all
  have hdis:∀ j,j < N→¬ (T j=true∧(S j && !T j)=true):=by intro j _ h;simp at h;simp[h.1] at h
  have hUe:Bp N H W (fun j=>S j && !T j):=Ng hTS hTe he
  by_cases hf2:T f=true
  ·have hc:card N S=card N T+card N (fun j=>S j && !T j):=hTS.card
   have:0 < card N (fun j=>S j && !T j):=K7 hi (by simp[hsi,hTi])
   obtain⟨e,hr⟩:=ih T f (by omega) hTe hf hf2
   refine⟨e,Sr (D:=fun j=>S j && !T j) e (del T f) (del S f) f ?_ ?_ ?_ hr⟩
   ·intro j hj;unfold del;have:=huni j hj
    by_cases e:j=f
    ·subst e;simp[hf2]
    ·simp only[beq_eq_false_iff_ne.2 e,Bool.not_false,Bool.and_true];exact this
   ·intro j hj h;unfold del at h;simp at h;simp[h.1.1] at h
   ·intro X X' hX hu hd hq
    have hX':Nf N X X':=by intro j hj h;rw[hu j hj,h];rfl
    have e':=UE hu hd hq.1 hUe
    have hxi:X i=false:=by
     cases h:X i
     ·rfl
     ·have:=hX i hi h;simp[del,hTi] at this
    have m1:=OG hX' hi (by rw[hu i hi];simp[hsi,hTi]) hxi e'
    have m2:=hq.2
    have hfx:X' f=false:=by
     rw[hu f hf]
     cases h:X f
     ·simp[hf2]
     ·have:=hX f hf h;simp[del] at this
    have m3 := OG (A := X') (B := S) (by
     intro j hj h;rw[hu j hj] at h
     cases h1:X j
     ·rw[h1] at h;simp at h;exact h.1
     ·have:=hX j hj h1;simp[del] at this;exact hTS j hj this.1) hf hs hfx he
    exact⟨e',by omega⟩
  ·have hf2:T f=false:=by simpa using hf2
   have hUf:(fun j=>S j && !T j) f=true:=by simp[hs,hf2]
   obtain ⟨e, hr⟩ := bY (H := H) (W := W) (f := f) (card N (del (fun j => S j && !T j) f)) (del (fun j => S j && !T j) f) f (Nat.le_refl _) (by
    intro x
    have:=hUe x
    rw[Gv hf hUf H x,Gv hf hUf W x] at this
    exact this)
   refine⟨e,Sr (D:=T) e (del (fun j=>S j && !T j) f) (del S f) f ?_ ?_ ?_ hr⟩
   ·intro j hj;unfold del
    have:=hTS j hj
    by_cases e:j=f
    ·subst e;simp[hf2]
    ·simp only[beq_eq_false_iff_ne.2 e,Bool.not_false,Bool.and_true]
     cases h1:T j
     ·simp
     ·rw[this h1];rfl
   ·intro j hj h;unfold del at h;simp at h;simp[h.2] at h
   ·intro X X' hX hu hd hq
    have e':=UE hu hd hq hTe
    have hTX:Nf N T X':=by intro j hj h;rw[hu j hj,h];simp
    have m1:=hTX.M (H:=H) (W:=W)
    have hfx:X' f=false:=by
     rw[hu f hf,hf2]
     cases h:X f
     ·rfl
     ·have:=hX f hf h;simp[del] at this
    have m3 := OG (A := X') (B := S) (by
     intro j hj h;rw[hu j hj] at h
     cases h1:X j
     ·rw[h1] at h;exact hTS j hj (by simpa using h)
     ·have:=hX j hj h1;simp[del] at this;exact this.1.1) hf hs hfx he
    exact⟨e',by omega⟩
end Go.MdM
namespace Go.MdM
variable {N:Nat} {H W:Nat→Int}
theorem Yz (S:Bn):(els N S).Pairwise (· < ·):=by unfold els;exact List.pairwise_lt_range.filter _
theorem YA {Q:Bn→Prop} {f:Nat}:∀ (k:Nat) (R:Bn) (last:Nat),card N R < k →
 (∀ e,OH N H W Q f k R last=some e→BB N H W Q f R last e∧∀ e',BB N H W Q f R last e'→e=e'∨llt e e')∧(OH N H W Q f k R last=none→∀ e',¬ BB N H W Q f R last e'):=by
 intro k
 induction k with
 | zero=>intro R last h;omega
 | succ k ih =>
  intro R last hk
  unfold OH
  by_cases hc:W last=H f∧Q R
  ·rw[if_pos hc]
   refine⟨fun e he=>?_,fun h=>by cases h⟩
   injection he with he;subst he
   refine⟨hc,fun e' _=>?_⟩
   cases e' with
   | nil=>exact .inl rfl
   | cons=>exact .inr trivial
  ·rw[if_neg hc]
   have step:∀ e',BB N H W Q f R last e'→∃ i e2,e'=i::e2∧i∈els N R∧H i=W last∧BB N H W Q f (del R i) i e2:=by
    intro e' he'
    cases e' with
    | nil=>exact absurd he' hc
    | cons i e2=>exact⟨i,e2,rfl,Eo.2 ⟨he'.1,he'.2.1⟩,he'.2.2⟩
   have low:∀ i,i∈els N R→card N (del R i) < k:=by
    intro i hi
    obtain⟨h1,h2⟩:=Eo.1 hi
    have:=FM h1 h2
    omega
   constructor
   ·intro e he
    rw[List.findSome?_eq_some_iff] at he
    obtain⟨l1,i,l2,hl,hi,hn⟩:=he
    have hmem:i∈els N R:=by rw[hl];simp
    by_cases hW:H i=W last
    ·rw[if_pos hW] at hi
     cases hd:OH N H W Q f k (del R i) i with
     | none=>rw[hd] at hi;cases hi
     | some e1 =>
      rw[hd] at hi;injection hi with hi;subst hi
      obtain⟨a1,a2⟩:=(ih (del R i) i (low i hmem)).1 e1 hd
      have hm:=Eo.1 hmem
      refine⟨⟨hm.1,hm.2,hW,a1⟩,?_⟩
      intro e' he'
      obtain⟨j,e2,rfl,hj,hWj,hr⟩:=step e' he'
      have hp:=Yz (N:=N) R
      rw[hl,List.pairwise_append,List.pairwise_cons] at hp
      rw[hl] at hj
      rcases List.mem_append.1 hj with hj | hj
      ·have:=hn j hj
       rw[if_pos hWj,Option.map_eq_none_iff] at this
       exact absurd hr ((ih (del R j) j (low j (by rw[hl];simp[hj]))).2 this e2)
      ·rcases List.mem_cons.1 hj with rfl | hj
       ·rcases a2 e2 hr with rfl | h
        ·exact .inl rfl
        ·exact .inr (.inr ⟨rfl,h⟩)
       ·exact .inr (.inl (hp.2.1.1 j hj))
    ·rw[if_neg hW] at hi;cases hi
   ·intro hn e' he'
    rw[List.findSome?_eq_none_iff] at hn
    obtain⟨j,e2,rfl,hj,hWj,hr⟩:=step e' he'
    have:=hn j hj
    rw[if_pos hWj,Option.map_eq_none_iff] at this
    exact(ih (del R j) j (low j hj)).2 this e2 hr
theorem UF:∀ (L:List (List Nat)) (S:Bn),BI N H W S L→Bp N H W S∧L.length≤M N H W S
 | [], S, h => by
  have hc:∀ (g:Nat→Int) x,cn N S g x=0:=by
   intro g x;unfold cn;rw[List.countP_eq_zero];intro i hi;rw[h i (by simpa using hi)];simp
  exact⟨fun x=>by rw[hc,hc],Nat.zero_le _⟩
 | r :: L, S, h => by
  obtain⟨f,e,rfl,⟨h1,h2,h3⟩,h4,h5⟩:=h
  have ih:=UF L _ h5
  rw[Kc] at ih
  have hr:BB N H W (Bp N H W) f (del S f) f e:=PM e _ _ |>.2 ⟨h4,ih.1⟩
  have hE:Bp N H W S:=by
   intro x
   have:=Yy e _ _ hr x
   rw[Gv h1 h2 H x,Gv h1 h2 W x];exact this
  refine⟨hE,?_⟩
  have:Nf N (rem (del S f) e) S:=by intro j hj h;simp[rem,del] at h;exact h.1.1
  have:=OG this h1 h2 (by simp[rem,del]) hE
  have:=ih.2
  simp only[List.length_cons];omega
theorem RO {S:Bn} {f:Nat} {l:List Nat} (h:els N S=f::l):f < N∧S f=true∧∀ j,j < f→S j=false:=by
 have hm:=Eo.1 (show f∈els N S by rw[h];simp)
 refine⟨hm.1,hm.2,fun j hj=>?_⟩
 cases hS:S j
 ·rfl
 ·have:j∈els N S:=Eo.2 ⟨by omega,hS⟩
  have hp:=Yz (N:=N) S
  rw[h] at this hp
  rw[List.pairwise_cons] at hp
  rcases List.mem_cons.1 this with rfl | h2
  ·omega
  ·have:=hp.1 j h2;omega
theorem YB:∀ (k:Nat) (S:Bn),card N S≤k→Bp N H W S→BI N H W S (gr N H W k S)∧(gr N H W k S).length=M N H W S ∧
 ∀ L,BI N H W S L→L=gr N H W k S∨L.length < M N H W S∨(L.length=M N H W S∧bef (gr N H W k S) L):=by
 intro k
 induction k with
 | zero =>
  intro S hk hE
  have h0:=Gu (show card N S=0 by omega)
  refine⟨h0,by rw[I8 (by omega)];rfl,?_⟩
  intro L hL
  cases L with
  | nil=>exact .inl rfl
  | cons r L=>obtain⟨f,e,rfl,⟨h1,h2,h3⟩,_⟩:=hL;rw[h0 f h1] at h2;cases h2
 | succ k ih =>
  intro S hk hE
  unfold gr
  cases he:els N S with
  | nil =>
   have hc:card N S=0:=by rw[←Gs,he];rfl
   have h0:=Gu hc
   refine⟨h0,by rw[I8 hc];rfl,?_⟩
   intro L hL
   cases L with
   | nil=>exact .inl rfl
   | cons r L=>obtain⟨f,e,rfl,⟨h1,h2,h3⟩,_⟩:=hL;rw[h0 f h1] at h2;cases h2
  | cons f l =>
   obtain⟨f1,f2,f3⟩:=RO he
   have hcd:=FM f1 f2
   obtain⟨d1,d2⟩:=YA (N:=N) (H:=H) (W:=W) (Q:=Qs N H W S) (f:=f) (card N S+1) (del S f) f (by omega)
   dsimp only
   cases hd:OH N H W (Qs N H W S) f (card N S+1) (del S f) f with
   | none =>
    obtain⟨e,he⟩:=QR (H:=H) (W:=W) (card N S) S f (Nat.le_refl _) hE f1 f2
    exact absurd he (d2 hd e)
   | some e =>
    obtain⟨g1,g2⟩:=d1 e hd
    obtain⟨g3,g4⟩:=(PM e _ _).1 g1
    obtain⟨g5,g6⟩:=g4
    simp only[Option.getD_some]
    rw[←Kc] at g5 g6
    have hsub:Nf N (rem S (f::e)) (del S f):=by intro j hj h;simp[rem,del] at h ⊢;exact⟨h.1,h.2.1⟩
    have hcl:card N (rem S (f::e))≤k:=by
     have:card N (del S f)=card N (rem S (f::e))+_:=hsub.card
     omega
    obtain⟨i1,i2,i3⟩:=ih (rem S (f::e)) hcl g5
    refine⟨⟨f,e,rfl,⟨f1,f2,f3⟩,g3,i1⟩,by simp only[List.length_cons,i2];exact g6,?_⟩
    intro L hL
    have hle:=(UF L S hL).2
    cases L with
    | nil=>have:=hL f f1;rw[f2] at this;cases this
    | cons r L =>
     by_cases hlen:(r::L).length < M N H W S
     ·exact .inr (.inl hlen)
     have hlen:(r::L).length=M N H W S:=by omega
     obtain⟨f',e',rfl,⟨a1,a2,a3⟩,a4,a5⟩:=hL
     have hff:f'=f:=by
      rcases Nat.lt_trichotomy f f' with h | h | h
      ·rw[a3 f h] at f2;cases f2
      ·exact h.symm
      ·rw[f3 f' h] at a2;cases a2
     subst hff
     obtain⟨b1,b2⟩:=UF L _ a5
     have hq:BB N H W (Qs N H W S) f' (del S f') f' e':=by
      refine(PM e' _ _).2 ⟨a4,?_⟩
      rw[←Kc]
      refine⟨b1,?_⟩
      have:M N H W (rem S (f'::e'))+1≤M N H W S:=OG (by intro j hj h;simp[rem] at h;exact h.1) f1 f2 (by simp[rem]) hE
      simp only[List.length_cons] at hlen
      omega
     rcases g2 e' hq with rfl | h
     ·simp only[List.length_cons] at hlen
      rcases i3 L a5 with h | h | h
      ·subst h;exact .inl rfl
      ·omega
      ·exact .inr (.inr ⟨hlen,.inr ⟨rfl,h.2⟩⟩)
     ·exact .inr (.inr ⟨hlen,.inl (.inr ⟨rfl,h⟩)⟩)
end Go.MdM
namespace Go.MdM
section
def orb (s:Nat→Nat):Nat→List Nat→Nat→List Nat
 | 0,ring,_=>ring
 | k+1,ring,z=>bif ring.contains z then ring else orb s k (ring++[z]) (s z)
def nl (s:Nat→Nat) (k:Nat):List Nat→List Nat→List (List Nat)
 | [],_=>[]
 | p::ps,met=>bif met.contains p then nl s k ps met else orb s k [] p::nl s k ps (met++orb s k [] p)
end
variable {N:Nat} {H W:Nat→Int}
theorem YC:∀ (l r:List Nat),l.Nodup→(∀ x∈l,x∈r)→l.length≤r.length
 | [],_,_,_=>Nat.zero_le _
 | a :: l, r, hn, h => by
  rw[List.nodup_cons] at hn
  have ha:=h a (by simp)
  have:=YC l (r.erase a) hn.2 (fun x hx=>(List.mem_erase_of_ne (fun e=>by subst e;exact hn.1 hx)).2 (h x (by simp[hx])))
  rw[List.length_erase_of_mem ha] at this
  have:=List.length_pos_of_mem ha
  simp only[List.length_cons];omega
end Go.MdM
namespace Go.MdM
def nx (f:Nat):Nat→List Nat→Nat→Nat
 | _,[],_=>f
 | last,i::e,j=>bif j == last then i else nx f i e j
variable {N:Nat} {H W:Nat→Int}
end Go.MdM
set_option maxRecDepth 100000
namespace Go.MnOM
open Go.Sp Go.MnO Go.MdM

abbrev tb (s:Nat):Bn:=s.testBit
def eL (s:Nat):List Int:=(els 10 (tb s)).map Int.ofNat
noncomputable def bZ (o:Option Value) (z:Int):Bool:=oo o false fun v=>oo (Bi .i64 v) false fun x=>Bd x z
theorem WL {o:Option Value} {z:Int} (h:bZ o z=true):o=some (I z):=by
 unfold bZ at h
 cases o with
 | none=>cases h
 | some v =>
  rw[Ac] at h
  cases hs:Bi .i64 v with
  | none=>rw[hs] at h;cases h
  | some x =>
   rw[hs,Ac,Lr] at h
   rw[Eh hs,eq_of_beq h]
noncomputable def bqn (a b:Bool):Bool:=bb a b (nt b)
theorem cB {a b:Bool}:bqn a b=true→a=b:=by cases a <;> cases b <;> intro h <;> first | rfl | cases h
theorem tK:NL (fun s=>NL (fun i=>bqn (Bd (Np .u16 (G6 .u16 (Int.ofNat s) i) 1) 1) (s.testBit i)) 10) 1024=true:=by kernel_rfl
theorem p53 (n s i:Nat) (hs:s < 1024) (hi:i < 10):Eb (n+1) 53 [.int .u16 (Int.ofNat s),I (Int.ofNat i)]=some (.bool (s.testBit i)):=by
 refine Eq.trans (b:=bQ (Eb n) 1000000 (Int.ofNat s) (Int.ofNat i)) (by kernel_rfl) ?_
 unfold bQ
 rw[Cx,Ac,cB (Rp (Rp tK s hs) i hi)]
def Acx (s:Nat):Bool:=decide (bl 10 0 s=eL s)
theorem cK:NL Acx 1024=true:=by kernel_rfl
theorem iE (s:Nat) (hs:s < 1024):bl 10 0 s=eL s:=of_decide_eq_true (Rp cK s hs)
theorem cO (pu:Af):NL (fun s=>bZ (bR pu 1000000 (Int.ofNat s)) (Int.ofNat (card 10 (tb s)))) 1024=true:=by kernel_rfl
theorem p64 (n s:Nat) (hs:s < 1024):Eb (n+1) 64 [.int .u16 (Int.ofNat s)]=some (I (Int.ofNat (card 10 (tb s)))):=by
 refine Eq.trans (b:=bR (Eb n) 1000000 (Int.ofNat s)) (by kernel_rfl) ?_
 exact WL (Rp (cO _) s hs)
def cl (s k:Nat):Nat:=s &&& (1023 ^^^ 2 ^ k)
theorem Zt:NL (fun s=>NL (fun k=>Bd (QV .u16 (Int.ofNat s) (QW .u16 1 k)) (Int.ofNat (cl s k))) 10) 1024=true:=by kernel_rfl
theorem Nh (s k:Nat) (hs:s < 1024) (hk:k < 10):QV .u16 (Int.ofNat s) (QW .u16 1 k)=Int.ofNat (cl s k):=by
 have:=Rp (Rp Zt s hs) k hk
 rw[Lr] at this
 exact eq_of_beq this
theorem cZ (i:Nat) (hi:i < 10):Nat.testBit 1023 i=true:=by
 match i,hi with
 | 0,_=>rfl | 1,_=>rfl | 2,_=>rfl | 3,_=>rfl | 4,_=>rfl | 5,_=>rfl | 6,_=>rfl | 7,_=>rfl | 8,_=>rfl | 9,_=>rfl
theorem tL (s k i:Nat) (hi:i < 10):(cl s k).testBit i=(s.testBit i && !(i == k)):=by
 unfold cl
 rw[Nat.testBit_and,Nat.testBit_xor,cZ i hi,Nat.testBit_two_pow]
 by_cases h:k=i
 ·subst h;simp
 ·have:¬ i=k:=fun e=>h e.symm
  simp[h,this]
theorem UG (s k m:Nat) (hs:s < 2 ^ m):cl s k < 2 ^ m:=Nat.lt_of_le_of_lt Nat.and_le_left hs
theorem Ni {s m i:Nat} (hs:s < 2 ^ m) (hi:m≤i):s.testBit i=false:=Nat.testBit_lt_two_pow (Nat.lt_of_lt_of_le hs (Nat.pow_le_pow_right (by decide) hi))
theorem UH {m:Nat} (h:m≤10):(2:Nat) ^ m≤1024:=Nat.pow_le_pow_right (n:=2) (by decide) h
theorem WM (m:Nat) (hm:m≤10) (S:Bn) (hs:∀ i,m≤i→S i=false):els 10 S=els m S:=by
 unfold els
 obtain⟨d,hd⟩:=Nat.exists_eq_add_of_le hm
 rw[hd,List.range_add,List.filter_append]
 have:((List.range d).map (m + ·)).filter S=[]:=by
  rw[List.filter_eq_nil_iff];intro a ha
  simp at ha;obtain⟨b,_,rfl⟩:=ha
  rw[hs _ (by omega)];exact Bool.false_ne_true
 rw[this,List.append_nil]
theorem Zu {s m:Nat} (hm:m≤10) (hs:s < 2 ^ m):eL s=(els m (tb s)).map Int.ofNat:=by
 unfold eL;rw[WM m hm (tb s) (fun i hi=>Ni hs hi)]
theorem tN {s m:Nat} (hm:m≤10) (hs:s < 2 ^ m):card 10 (tb s)=card m (tb s):=by
 rw[←Gs,←Gs,WM m hm (tb s) (fun i hi=>Ni hs hi)]
theorem Sz {s k m:Nat} (hm:m≤10):∀ i,i < m→tb (cl s k) i=del (tb s) k i:=fun i hi=>tL s k i (by omega)

def fn (l:List Int):Nat→Int:=fun i=>l.getD i 0
theorem Gw {l:List Int} {i:Nat} (h:i < l.length):fn l i=l[i]:=by unfold fn;rw[List.getD_eq_getElem?_getD,List.getElem?_eq_getElem h,Option.getD_some]
theorem Oi (i:Nat) (S:Bn) (f:Nat→Int) (x:Int):cn (i+1) S f x=cn i S f x+(if S i=true∧f i=x then 1 else 0):=by
 unfold cn
 rw[List.range_succ,List.countP_append,List.countP_singleton]
 congr 1
 cases h:S i <;> simp
theorem iF (i:Nat) (S:Bn) (f:Nat→Int) (x:Int):cn i S f x≤i:=by
 unfold cn
 exact Nat.le_trans List.countP_le_length (by simp)
theorem tO {i:Nat} {S:Bn} {f:Nat→Int} {x:Int} (h:∀ j,j < i→f j≠x):cn i S f x=0:=by
 unfold cn
 rw[List.countP_eq_zero]
 intro j hj
 have:=h j (by simpa using hj)
 simp[this]

theorem dA (pu:Af) (n:Nat) (q:List Int) (hq:q.length=5):∃ b,Ux pu n (q.map I)=some (.bool b)∧(b=true↔∀ j,j < 5→q.getD j 0=0):=by
 match q,hq with
 | [a, b, c, d, e], _ =>
  refine⟨bq true (an (Bd a 0) (an (Bd b 0) (an (Bd c 0) (an (Bd d 0) (an (Bd e 0) true))))),rfl,?_⟩
  have:(bq true (an (Bd a 0) (an (Bd b 0) (an (Bd c 0) (an (Bd d 0) (an (Bd e 0) true)))))=true)↔a=0∧b=0∧c=0∧d=0∧e=0:=by
   simp[Lr]
  rw[this]
  constructor
  ·rintro⟨rfl,rfl,rfl,rfl,rfl⟩ j hj
   match j,hj with | 0,_=>rfl | 1,_=>rfl | 2,_=>rfl | 3,_=>rfl | 4,_=>rfl | j+5,hj=>omega
  ·intro g;exact⟨g 0 (by omega),g 1 (by omega),g 2 (by omega),g 3 (by omega),g 4 (by omega)⟩
end Go.MnOM
set_option maxRecDepth 100000
namespace Go.MnOM
open Go.Sp Go.MnO Go.MdM

def U0 (l:List Int):Prop:=∀ x∈l,0≤x∧x < 5
theorem Xd (q:List Int) (X Y:Nat) (hq:q.length=5) (hX:X < 5) (hY:Y < 5) (hb:∀ j,j < 5→-1000≤q.getD j 0∧q.getD j 0≤1000) :
 (q.map I)[X]?=some (I (q.getD X 0))∧Aj .i64 (Int.add (q.getD X 0) 1)=q.getD X 0+1∧BM ([I (q.getD X 0+1)]:List Value) X (q.map I)=(q.set X (q.getD X 0+1)).map I ∧
 ((q.set X (q.getD X 0+1)).map I)[Y]?=some (I ((q.set X (q.getD X 0+1)).getD Y 0))∧Aj .i64 (Int.sub ((q.set X (q.getD X 0+1)).getD Y 0) 1)=(q.set X (q.getD X 0+1)).getD Y 0 - 1 ∧
 BM ([I ((q.set X (q.getD X 0+1)).getD Y 0 - 1)]:List Value) Y ((q.set X (q.getD X 0+1)).map I)=(upd q X Y).map I:=by
 have gX : q[X]'(by omega) = q.getD X 0 := by simp [List.getD_eq_getElem?_getD, hq, hX]
 have hl1:(q.set X (q.getD X 0+1)).length=5:=by simp[hq]
 have gY : (q.set X (q.getD X 0 + 1))[Y]'(by omega) = (q.set X (q.getD X 0 + 1)).getD Y 0 := by simp [List.getD_eq_getElem?_getD, hq, hY]
 have hbY:-1001≤(q.set X (q.getD X 0+1)).getD Y 0∧(q.set X (q.getD X 0+1)).getD Y 0≤1001:=by
  have h1:=hb X hX
  have h2:=hb Y hY
  rw[Uz _ _ _ _ (by omega)]
  split <;> omega
 refine ⟨?_, Oe _ (by have := hb X hX; show _ ≤ q.getD X 0 + 1; omega) (by have := hb X hX; show q.getD X 0 + 1 ≤ _; omega), ?_, ?_,
  Oe _ (by show _≤(q.set X (q.getD X 0+1)).getD Y 0 - 1;omega) (by show (q.set X (q.getD X 0+1)).getD Y 0 - 1≤_;omega),?_⟩
 ·rw[Aja q X (by omega),gX]
 ·rw[HY _ _ _ (by simp[hq,hX]),List.map_set]
 ·rw[Aja _ Y (by omega),gY]
 ·rw[HY _ _ _ (by simp[hq,hY]),←List.map_set];rfl
theorem WN {l:List Int} (hl:U0 l) {i:Nat} (h:i < l.length):∃ X:Nat,l[i]=Int.ofNat X∧X < 5:=by
 obtain⟨h1,h2⟩:=hl _ (List.getElem_mem h)
 exact⟨l[i].toNat,(Int.toNat_of_nonneg h1).symm,by omega⟩
theorem WO {l:List Int} (hl:U0 l) {x:Int} (hx:¬ (0≤x∧x < 5)) (S:Bn) {i:Nat} (hi:i≤l.length):cn i S (fn l) x=0:=by
 refine tO fun j hj e=>hx ?_
 rw[Gw (by omega)] at e
 rw[←e];exact hl _ (List.getElem_mem _)

theorem l71 (n m fl fl' s:Nat) (k:Int) (h w:List Int) (hN:h.length≤10) (hw:w.length=h.length) (hs:s < 1024) (hk:U0 h) (hkw:U0 w):∀ (f i:Nat) (q:List Int),h.length - i < f→i≤h.length→q.length=5 →
 (∀ j,j < 5→q.getD j 0=cn i (tb s) (fn h) (j:Int) - cn i (tb s) (fn w) (j:Int)) →
 ∃ b,Pp (Eb (n+1)) m f (Int.ofNat s) (Int.ofNat h.length) (Int.ofNat i) k (sl fl h) (sl fl' w) (q.map I)=some (.bool b)∧(b=true↔Bp h.length (fn h) (fn w) (tb s)):=by
 intro f
 induction f with
 | zero=>intro i q hi;omega
 | succ f ih =>
  intro i q hi hil hq hinv
  show ∃ b,Uy (Eb (n+1)) m (Pp (Eb (n+1)) m f) _ _ _ _ _ _ _=_∧_
  unfold Uy
  rw[Bh,kL,Ak]
  by_cases hlt:i < h.length
  ·have hlw:i < w.length:=by omega
   rw[FL hlt,Ak]
   have p:=p53 n s i hs (by omega)
   simp only[p,Ac,BU]
   cases hb:s.testBit i with
   | false =>
    rw[AA]
    unfold QM
    rw[Bh,kL,Ak,DC i (by omega)]
    refine ih (i+1) q (by omega) (by omega) hq fun j hj=>?_
    rw[hinv j hj,Oi,Oi]
    simp[tb,hb]
   | true =>
    obtain⟨X,eX,hX⟩:=WN hk hlt
    obtain⟨Y,eY,hY⟩:=WN hkw hlw
    have hbq:∀ j,j < 5→-1000≤q.getD j 0∧q.getD j 0≤1000:=fun j hj=>by
     have:=hinv j hj
     have c1:=iF i (tb s) (fn h) (j:Int)
     have c2:=iF i (tb s) (fn w) (j:Int)
     omega
    obtain⟨u1,u2,u3,u4,u5,u6⟩:=Xd q X Y hq hX hY hbq
    have hl1:(q.set X (q.getD X 0+1)).length=5:=by simp[hq]
    unfold QM
    simp only[Ak,Cx,Ac,I4,GX,blt_eq,hlt,hlw,decide_true,CF,Bool.true_and,BZ,Nat.mul_one,Aja h i hlt,Aja w i hlw,BP,eX,eY,hX,hY,Nat.zero_add,u1,u2,u3,u4,u5,u6,ble_eq,AV,List.length_map,hq,hl1,Nat.succ_le_of_lt hX,Nat.succ_le_of_lt hY,Bh,kL,DC i (by omega:i < 1000000)]
    refine ih (i+1) (upd q X Y) (by omega) (by omega) (by rw[WG,hq]) fun j hj=>?_
    rw[WH q X Y j (by omega) (by omega) (by omega),hinv j hj,Oi,Oi,Gw hlt,Gw hlw,eX,eY]
    have t1:(tb s i=true∧Int.ofNat X=(j:Int))↔j=X:=by simp[tb,hb];omega
    have t2:(tb s i=true∧Int.ofNat Y=(j:Int))↔j=Y:=by simp[tb,hb];omega
    simp only[t1,t2]
    split <;> split <;> simp <;> omega
  ·have:i=h.length:=by omega
   subst this
   rw[FD hlt,AA]
   obtain⟨b,e,hb⟩:=dA (Eb (n+1)) m q hq
   refine⟨b,e,hb.trans ⟨fun g x=>?_,fun g j hj=>?_⟩⟩
   ·by_cases hx:0≤x∧x < 5
    ·obtain⟨j,rfl⟩:∃ j:Nat,x=j:=⟨x.toNat,by omega⟩
     have h1:=hinv j (by omega)
     have h2:=g j (by omega)
     omega
    ·rw[WO hk hx _ (Nat.le_refl _),WO hkw hx _ (by omega)]
   ·rw[hinv j hj,g j];omega
theorem p71 (n fl fl' s:Nat) (k:Int) (h w:List Int) (hN:h.length≤10) (hw:w.length=h.length) (hs:s < 1024) (hk:U0 h) (hkw:U0 w) :
 ∃ b,Eb (n+2) 71 [tr fl fl' k h w,.int .u16 (Int.ofNat s)]=some (.bool b)∧(b=true↔Bp h.length (fn h) (fn w) (tb s)):=by
 obtain⟨b,e,hb⟩:=l71 n 1000000 fl fl' s k h w hN hw hs hk hkw 1000000 0 [0,0,0,0,0] (by omega) (by omega) rfl (by intro j hj;match j,hj with | 0,_=>rfl | 1,_=>rfl | 2,_=>rfl | 3,_=>rfl | 4,_=>rfl | j+5,hj=>omega)
 refine⟨b,?_,hb⟩
 refine Eq.trans (b:=Pp (Eb (n+1)) 1000000 1000000 (Int.ofNat s) (Int.ofNat h.length) (Int.ofNat 0) k (sl fl h) (sl fl' w) (([0,0,0,0,0]:List Int).map I)) (by kernel_rfl) e
end Go.MnOM
set_option maxRecDepth 100000
namespace Go.MnOM
open Go.Sp Go.MnO Go.MdM

abbrev U (s:Nat):Value:=.int .u16 (Int.ofNat s)
def BO (T:Nat→Int) (es:List EO):Prop:=∀ e∈es,∃ s b,e=⟨U s,I (T s),b⟩
theorem Acy {a b:Nat} (h:U a=U b):a=b:=by injection h with _ h;injection h
theorem Fh {T:Nat→Int} {es:List EO} (h:BO T es):Au F4 es=true:=by
 rw[Bh,List.all_eq_true]
 intro e he
 obtain⟨s,b,rfl⟩:=h e he
 rfl
theorem O4 {T:Nat→Int} (s:Nat):∀ (es:List EO) (i:Nat),BO T es →
 (GD (U s) es i=some none∧∀ e∈es,e.key≠U s)∨∃ j b,GD (U s) es i=some (some (i+j,I (T s)))∧es[j]?=some ⟨U s,I (T s),b⟩
 | [],i,_=>.inl ⟨rfl,fun e he=>by cases he⟩
 | e :: es, i, h => by
  obtain⟨t,b,rfl⟩:=h e (by simp)
  have hf:GD (U s) (⟨U t,I (T t),b⟩::es) i=bb (Bd (Int.ofNat s) (Int.ofNat t)) (some (some (i,I (T t)))) (GD (U s) es (i+1)):=rfl
  by_cases hst:s=t
  ·subst hst
   rw[hf,show Bd (Int.ofNat s) (Int.ofNat s)=true from by simp[Lr],Ak]
   exact .inr ⟨0,b,rfl,rfl⟩
  ·rw[hf,show Bd (Int.ofNat s) (Int.ofNat t)=false from by simp[Lr];omega,AA]
   rcases O4 s es (i+1) (fun e he=>h e (by simp[he])) with⟨h1,h2⟩ | ⟨j,b',h1,h2⟩
   ·refine .inl ⟨h1,fun e he=>?_⟩
    rcases List.mem_cons.1 he with rfl | he
    ·intro g;exact hst (Acy g).symm
    ·exact h2 e he
   ·refine .inr ⟨j+1,b',?_,by simpa using h2⟩
    rw[h1,show i+1+j=i+(j+1) by omega]
theorem RP {α:Type} (f:α→α):∀ (j:Nat) (l:List α) (a:α),l[j]?=some a→f a=a→SS f j l=l
 | 0,a::l,b,h,hf=>by simp at h;subst h;show f a::l=_;rw[hf]
 | j + 1, a :: l, b, h, hf => by
  show a::SS f j l=_
  rw[RP f j l b (by simpa using h) hf]
 | _,[],_,h,_=>by simp at h
theorem tQ {T:Nat→Int} (s c:Nat) {es:List EO} (h:BO T es):∃ r,GD (U s) es 0=some r∧BO T (Gr (U s) (I (T s)) c es r)∧(∀ e∈es,e∈Gr (U s) (I (T s)) c es r):=by
 rcases O4 s es 0 h with⟨h1,h2⟩ | ⟨j,b,h1,h2⟩
 ·refine⟨none,h1,?_,?_⟩
  ·show BO T (Br es [⟨U s,I (T s),c⟩])
   rw[BH]
   intro e he
   rcases List.mem_append.1 he with he | he
   ·exact h e he
   ·exact⟨s,c,List.mem_singleton.1 he⟩
  ·intro e he
   show e∈Br es _
   rw[BH];simp[he]
 ·refine⟨_,h1,?_⟩
  have:Gr (U s) (I (T s)) c es (some (0+j,I (T s)))=es:=by
   show SS (fun e=>⟨U s,I (T s),e.born⟩) (0+j) es=es
   rw[Nat.zero_add]
   exact RP _ j es _ h2 rfl
  rw[this];exact⟨h,fun e he=>he⟩

def ptr:Value:=.pointer (some ⟨1,0,none⟩)
def OT (fl fl':Nat) (k:Int) (h w:List Int):Value:=.agg ⟨[I k,S fl h,S fl' w,.map (some 2)]⟩
noncomputable def mp (es:List EO) (c:Nat):Value:=Ef (.map es c)
noncomputable def Co (h w:List Int) (s:Nat):Int:=Int.ofNat (M h.length (fn h) (fn w) (tb s))
def Gm (h w:List Int) (es:List EO):Prop:=BO (Co h w) es∧∃ b,(⟨U 0,I (Co h w 0),b⟩:EO)∈es

theorem tT (N:Nat) (H W:Nat→Int) (S:Bn):M N H W S≤N:=by
 have:∀ k (S:Bn),card N S≤k→M N H W S≤card N S:=by
  intro k
  induction k with
  | zero=>intro S hk;rw[I8 (by omega)];exact Nat.zero_le _
  | succ k ih =>
   intro S hk
   by_cases h0:card N S=0
   ·rw[I8 h0];exact Nat.zero_le _
   ·rw[Sq S h0]
    have h1:mx ((els N S).map fun i=>M N H W (del S i))≤card N S - 1:=by
     refine iC fun a ha=>?_
     obtain⟨i,hi,rfl⟩:=List.mem_map.1 ha
     obtain⟨h1,h2⟩:=Eo.1 hi
     have h3:=FM h1 h2
     have:=ih (del S i) (by omega)
     omega
    have:=V4 (Bp N H W S)
    omega
 have h1:=this _ S (Nat.le_refl _)
 have h2:card N S≤N:=by unfold card;exact Nat.le_trans List.countP_le_length (by simp)
 omega
theorem dB (l:List Nat) (i:Nat) (h:i < l.length):mx (l.take (i+1))=max (mx (l.take i)) l[i]:=by
 rw[List.take_succ_eq_append_getElem h]
 unfold mx
 rw[List.foldl_append];rfl

section
variable (fl fl':Nat) (k:Int) (h w:List Int) (hN:h.length≤10) (hw:w.length=h.length) (hk:U0 h) (hkw:U0 w)
def Cs (n d:Nat):Prop:=∀ s es c,card h.length (tb s)≤d→s < 2 ^ h.length→Gm h w es →
 ∃ es' c',Eb n 10660 [ptr,U s,OT fl fl' k h w,mp es c]=some (.tuple ⟨[I (Co h w s),OT fl fl' k h w,mp es' c']⟩)∧Gm h w es'
include hN hw hk hkw
theorem Zv (n s c:Nat) (es:List EO) (hs:s < 2 ^ h.length) (hg:Gm h w es) (h0:card h.length (tb s)≠0) :
 ∃ es' c',JP (Eb (n+2)) 1000000 (Int.ofNat s) (Int.ofNat (mx ((els h.length (tb s)).map fun i=>M h.length (fn h) (fn w) (del (tb s) i)))) k (sl fl h) (sl fl' w) es c=some (.tuple ⟨[I (Co h w s),OT fl fl' k h w,mp es' c']⟩)∧Gm h w es':=by
 obtain⟨b,e,hb⟩:=p71 n fl fl' s k h w hN hw (Nat.lt_of_lt_of_le hs (UH hN)) hk hkw
 obtain⟨r,h1,h2,h3⟩:=tQ (T:=Co h w) s c hg.1
 have fin:Jd (Eb (n+2)) 1000000 (Int.ofNat s) (Co h w s) k (sl fl h) (sl fl' w) es c=some (.tuple ⟨[I (Co h w s),OT fl fl' k h w,mp (Gr (U s) (I (Co h w s)) c es r) (Ja c r)]⟩):=by
  unfold Jd
  rw[h1,Ac,Fh h2,Ak];rfl
 have gm:Gm h w (Gr (U s) (I (Co h w s)) c es r):=⟨h2,hg.2.elim fun b hb=>⟨b,h3 _ hb⟩⟩
 refine⟨_,Ja c r,?_,gm⟩
 unfold JP
 have hm:=Sq (N:=h.length) (H:=fn h) (W:=fn w) (tb s) h0
 have hlt:=tT h.length (fn h) (fn w) (tb s)
 unfold tr S at e
 rw[e,Ac,BU,Ac,Fh hg.1,Ak]
 cases b with
 | true =>
  rw[UB (hb.1 rfl)] at hm
  rw[Ak,DC _ (by omega),←hm]
  exact fin
 | false =>
  rw[UC (fun g=>by simpa using hb.2 g)] at hm
  rw[AA,show mx _=M h.length (fn h) (fn w) (tb s) from hm.symm]
  exact fin
theorem tV (n d s:Nat) (hs:s < 2 ^ h.length) (hd:card h.length (tb s)≤d+1) (h0:card h.length (tb s)≠0) (ih0:Cs fl fl' k h w (n+2) d):∀ (f i c:Nat) (es:List EO),(eL s).length - i < f→i≤(eL s).length→Gm h w es →
 ∃ es' c', K4 (Eb (n + 2)) 1000000 f (Int.ofNat s) (Int.ofNat (mx (((els h.length (tb s)).map fun i => M h.length (fn h) (fn w) (del (tb s) i)).take i))) (sl 0 (eL s)) (Int.ofNat (eL s).length) (Int.ofNat i) k (sl fl h) (sl fl' w) es c =
  some (.tuple ⟨[I (Co h w s),OT fl fl' k h w,mp es' c']⟩)∧Gm h w es':=by
 intro f
 have heL:=Zu hN hs
 have hlen:(eL s).length=(els h.length (tb s)).length:=by rw[heL,List.length_map]
 have hcd:(els h.length (tb s)).length≤10:=by
  rw[Gs];unfold card;exact Nat.le_trans List.countP_le_length (by simpa using hN)
 induction f with
 | zero=>intro i c es hi;omega
 | succ f ih =>
  intro i c es hi hil hg
  show ∃ es' c',K3 (Eb (n+2)) 1000000 (K4 (Eb (n+2)) 1000000 f) _ _ _ _ _ _ _ _ _ _=_∧_
  unfold K3
  rw[Fh hg.1,Ak]
  by_cases hlt:i < (eL s).length
  ·have hlt':i < (els h.length (tb s)).length:=by omega
   have hx:(eL s)[i]=Int.ofNat ((els h.length (tb s))[i]):=by simp only[heL,List.getElem_map]
   obtain⟨x1,x2⟩:=Eo.1 (List.getElem_mem hlt')
   generalize hxe:(els h.length (tb s))[i]=x at *
   have hcl:=UG s x h.length hs
   have hdel:∀ j,j < h.length→tb (cl s x) j=del (tb s) x j:=Sz hN
   have hcd2:card h.length (tb (cl s x))≤d:=by
    rw[FN hdel];have:=FM x1 x2;omega
   obtain⟨es1,c1,e1,g1⟩:=ih0 (cl s x) es c hcd2 hcl hg
   have hT:Co h w (cl s x)=Int.ofNat (M h.length (fn h) (fn w) (del (tb s) x)):=by unfold Co;rw[G5 hdel]
   unfold OT S mp ptr at e1
   rw[FL hlt]
   have hgx:((eL s).map I)[i]?=some (I (Int.ofNat x)):=by rw[Aja _ i hlt,hx]
   simp only[Ak,Cx,Ac,I4,GX,blt_eq,hlt,decide_true,CF,Bool.true_and,BZ,Nat.mul_one,hgx,BP,Nh s x (Nat.lt_of_lt_of_le hs (UH hN)) (by omega)]
   rw[e1]
   simp only[Ac,FW,Dj,EG,RL,BP,Dc,CX,Fh g1.1,Ak,DC i (by omega),gZ,hT]
   rw[show FC (Value.map (some 2)) 2=true from rfl,Ak]
   have hmx:=dB ((els h.length (tb s)).map fun i=>M h.length (fn h) (fn w) (del (tb s) i)) i (by simpa using hlt')
   simp only[List.getElem_map,hxe] at hmx
   have hmaxI:∀ a b:Nat,max (Int.ofNat a) (Int.ofNat b)=Int.ofNat (max a b):=fun a b=>by simp only[Int.ofNat_eq_natCast];omega
   rw[hmaxI,←hmx]
   exact ih (i+1) c1 es1 (by omega) (by omega) g1
  ·have hi':i=(eL s).length:=by omega
   subst hi'
   rw[FD hlt,AA,List.take_of_length_le (by rw[List.length_map];omega)]
   exact Zv fl fl' k h w hN hw hk hkw n s c es hs hg h0
theorem V5:∀ (d n:Nat),Cs fl fl' k h w (n+d+3) d:=by
 intro d
 induction d with
 | zero =>
  intro n s es c hd hs hg
  have hz:s=0:=by
   apply Nat.eq_of_testBit_eq
   intro i
   rw[Nat.zero_testBit]
   by_cases hi:i < h.length
   ·exact Gu (by omega:card h.length (tb s)=0) i hi
   ·exact Ni hs (by omega)
  subst hz
  obtain⟨b0,hb0⟩:=hg.2
  refine⟨es,c,?_,hg⟩
  refine Eq.trans (b:=Ji (Eb (n+0+2)) 1000000 (Int.ofNat 0) k (sl fl h) (sl fl' w) es c) ?_ ?_
  ·show Kg _ _ [ptr,U 0,OT fl fl' k h w,mp es c]=_
   unfold Kg OT S mp ptr
   simp only[Dj,EG,CX,Ab7,BP,RL,Dc,Ac]
   rfl
  unfold Ji
  rw[Fh hg.1,Ak]
  rcases O4 (T:=Co h w) 0 es 0 hg.1 with⟨h1,h2⟩ | ⟨j,b,h1,h2⟩
  ·exact absurd rfl (h2 _ hb0)
  ·rw[h1];rfl
 | succ d ih =>
  intro n s es c hd hs hg
  have e0:Eb (n+(d+1)+3) 10660 [ptr,U s,OT fl fl' k h w,mp es c]=Ji (Eb (n+(d+1)+2)) 1000000 (Int.ofNat s) k (sl fl h) (sl fl' w) es c:=by
   show Kg _ _ [ptr,U s,OT fl fl' k h w,mp es c]=_
   unfold Kg OT S mp ptr
   simp only[Dj,EG,CX,Ab7,BP,RL,Dc,Ac]
   rfl
  rw[e0]
  unfold Ji
  rw[Fh hg.1,Ak]
  rcases O4 (T:=Co h w) s es 0 hg.1 with⟨h1,h2⟩ | ⟨j,b,h1,h2⟩
  ·have h0 : card h.length (tb s) ≠ 0 := by
    intro hz
    have hz:s=0:=by
     apply Nat.eq_of_testBit_eq
     intro i
     rw[Nat.zero_testBit]
     by_cases hi:i < h.length
     ·exact Gu hz i hi
     ·exact Ni hs (by omega)
    subst hz
    obtain⟨b0,hb0⟩:=hg.2
    exact h2 _ hb0 rfl
   rw[h1,Ac]
   have e1:Bi .i64 (Wd none (.int .i64 0))=some 0:=rfl
   have p:=p62 (n+d+1) s (Nat.lt_of_lt_of_le hs (UH hN))
   rw[iE s (Nat.lt_of_lt_of_le hs (UH hN))] at p
   rw[e1,Ac,show isS (none:Option (Nat×Value))=false from rfl,AA]
   rw[show n+(d+1)+2=n+d+1+2 by omega,p,Ac]
   unfold S
   rw[Dc,Ac]
   have:=tV fl fl' k h w hN hw hk hkw (n+d+1) d s hs hd h0 (by have:=ih n;rwa [show n+d+3=n+d+1+2 by omega] at this) 1000000 0 c es (by rw[Zu hN hs,List.length_map,Gs];unfold card;have:=List.countP_le_length (l:=List.range h.length) (p:=tb s);rw[List.length_range] at this;omega) (by omega) hg
   rw[List.take_zero] at this
   exact this
  ·refine⟨es,c,?_,hg⟩
   rw[h1];rfl
end
end Go.MnOM
set_option maxRecDepth 100000
namespace Go.MnOM
open Go.Sp Go.MnO Go.MdM

theorem Zw (n fl fl':Nat) (k:Int) (h w:List Int):Eb (n+1) 10650 [tr fl fl' k h w]=some (.tuple ⟨[ptr,OT fl fl' k h w,mp [⟨U 0,I 0,0⟩] 1]⟩):=by kernel_rfl
theorem TM0 (h w:List Int):Co h w 0=0:=by
 unfold Co
 rw[I8];rfl
 unfold card
 rw[List.countP_eq_zero]
 intro i _
 simp[tb]
theorem gm0 (h w:List Int):Gm h w [⟨U 0,I 0,0⟩]:=by
 refine⟨fun e he=>⟨0,0,?_⟩,0,?_⟩
 ·rw[List.mem_singleton.1 he,TM0]
 ·rw[TM0];simp
noncomputable def CY (h w:List Int):Int:=Int.ofNat (card h.length (tb (bv h w))) - Co h w (bv h w)
theorem p44 (n fl fl':Nat) (k:Int) (h w:List Int) (hN:h.length≤10) (hw:w.length=h.length) (hk:U0 h) (hkw:U0 w):Eb (n+14) 44 [tr fl fl' k h w]=some (I (CY h w)):=by
 refine Eq.trans (b:=bO (Eb (n+13)) 1000000 k (sl fl h) (sl fl' w)) (by kernel_rfl) ?_
 unfold bO
 have hb:=Yw h w
 have hb2:=Nat.lt_of_lt_of_le hb (UH hN)
 have hcd:card h.length (tb (bv h w))≤10:=by unfold card;exact Nat.le_trans List.countP_le_length (by simpa using hN)
 obtain⟨es,c,e1,g1⟩:=V5 fl fl' k h w hN hw hk hkw 10 n (bv h w) _ 1 hcd hb (gm0 h w)
 have e2:=p51 (n+12) fl fl' k h w hN hw
 have e3:=p64 (n+12) (bv h w) hb2
 have e4:=Zw (n+12) fl fl' k h w
 unfold tr S at e2 e4
 unfold OT S mp ptr at e1 e4
 rw[e2]
 simp only[Ac,Ab7]
 rw[e3]
 simp only[Ac,BP]
 rw[e4]
 simp only[Ac,FW,Dj,EG,RL,BP,Dc,CX,Fh (gm0 h w).1,Ak]
 rw[show MK (Value.pointer (some ⟨1,0,none⟩)) 1 0=true from rfl,show FC (Value.map (some 2)) 2=true from rfl]
 simp only[Ak]
 unfold U at e1
 rw[e1]
 simp only[Ac,FW,Dj,EG,RL,BP,Dc,CX,Fh g1.1,Ak]
 have hM:=tT h.length (fn h) (fn w) (tb (bv h w))
 have:Aj .i64 (Int.sub (Int.ofNat (card 10 (tb (bv h w)))) (Co h w (bv h w)))=CY h w:=by
  rw[tN hN hb]
  unfold CY Co
  exact Oe _ (by show _≤((card h.length (tb (bv h w)):Nat):Int) - ((M h.length (fn h) (fn w) (tb (bv h w)):Nat):Int);omega) (by show ((card h.length (tb (bv h w)):Nat):Int) - ((M h.length (fn h) (fn w) (tb (bv h w)):Nat):Int)≤_;omega)
 rw[this]
 rw[show FC (Value.map (some 2)) 2=true from rfl,Ak]
end Go.MnOM
