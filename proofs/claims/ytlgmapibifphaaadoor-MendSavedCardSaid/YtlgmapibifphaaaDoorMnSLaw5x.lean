/- The plain law of MendTrays, first part: checks. -/
import Derived.Test.YtlgmapibifphaaaDoorSpObjx
import Derived.Test.YtlgmapibifphaaaDoorMnSPux
import Derived.KernelRfl
set_option maxRecDepth 100000
namespace Go.MnSM
open Go.Sp Go.MnS
theorem p52 (n:Nat) (a b c:Int):FK (n+1) 52 [I a,I b,I c]=some (Value.bool (decide (a≤b) && decide (b≤c))):=by
 show bb (nt (AY b a)) (some (Value.bool (nt (AY c b)))) (some (Value.bool false))=_
 by_cases h1:a≤b <;> by_cases h2:b≤c <;> simp[JY,h1,h2,show (b < a)↔¬ a≤b from by omega,show (c < b)↔¬ b≤c from by omega]
theorem FM {a b:Nat} (h:a < b):AY (Int.ofNat a) (Int.ofNat b)=true:=by simp[JY,h]
theorem FL {a b:Nat} (h:¬ a < b):AY (Int.ofNat a) (Int.ofNat b)=false:=by simp[JY];omega
noncomputable def Sn (p:Prop) (a b:Int):Int:=@ite _ p (Classical.propDecidable p) a b
theorem Hz {p:Prop} {a b:Int} (h:p):Sn p a b=a:=if_pos h
theorem I8 {p:Prop} {a b:Int} (h:¬ p):Sn p a b=b:=if_neg h
theorem Ue {p q:Prop} (h:p↔q) (a b:Int):Sn p a b=Sn q a b:=by rw[propext h]
def OO (k:Int) (l:List Int):Prop:=∀ x∈l,0≤x∧x < k
def evn (K:Nat) (h w:List Int):Prop:=∀ x:Nat,x < K→h.count (x:Int)=w.count (x:Int)
noncomputable def chk (k:Int) (h w:List Int):Int:=
 Sn (1≤k∧k≤5) (Sn (h.length=0) 4 (Sn (10 < h.length) 3 (Sn (w.length=h.length) (Sn (OO k h∧OO k w) (Sn (evn k.toNat h w) 0 17) 2) 5))) 1
def tr (fl fl':Nat) (k:Int) (h w:List Int):Value:=.agg ⟨[I k,S fl h,S fl' w]⟩
theorem OT {k x:Int} {l:List Int}:OO k (x::l)↔(0≤x∧x < k)∧OO k l:=by simp[OO]
end Go.MnSM
set_option maxRecDepth 100000
namespace Go.MnSM
open Go.Sp Go.MnS
theorem Jh {α:Type} (v:α):∀ (i:Nat) (xs:List α),i < xs.length→BM [v] i xs=xs.set i v
 | 0,x::xs,_=>rfl
 | i + 1, x :: xs, h => by
  show x::BM [v] i xs=x::xs.set i v
  rw[Jh v i xs (by simpa using h)]
 | _,[],h=>by simp at h
theorem nT (pu:Af) (n:Nat) (q:List Int) (hq:q.length=5):WJ pu n (q.map I)=some (I (Sn (∀ j,(h:j < q.length)→q[j]=0) 0 17)):=by
 match q,hq with
 | [a, b, c, d, e], _ =>
  show bb (bq false (an (Bd a 0) (an (Bd b 0) (an (Bd c 0) (an (Bd d 0) (an (Bd e 0) true)))))) (some (I 17)) (some (I 0))=_
  by_cases h:a=0∧b=0∧c=0∧d=0∧e=0
  ·obtain⟨rfl,rfl,rfl,rfl,rfl⟩:=h
   rw[Hz (by intro j hj;match j,hj with | 0,_=>rfl | 1,_=>rfl | 2,_=>rfl | 3,_=>rfl | 4,_=>rfl | j+5,hj=>simp at hj;omega)]
   rfl
  ·rw[I8 (λg=>h ⟨g 0 (by simp),g 1 (by simp),g 2 (by simp),g 3 (by simp),g 4 (by simp)⟩)]
   have:(bq false (an (Bd a 0) (an (Bd b 0) (an (Bd c 0) (an (Bd d 0) (an (Bd e 0) true))))))=true:=by
    simp[Lr];omega
   rw[this];rfl
def upd (q:List Int) (X Y:Nat):List Int:=(q.set X (q.getD X 0+1)).set Y ((q.set X (q.getD X 0+1)).getD Y 0 - 1)
theorem Zy (q:List Int) (X Y:Nat):(upd q X Y).length=q.length:=by simp[upd]
theorem Zz (q:List Int) (X Y j:Nat) (hX:X < q.length) (hY:Y < q.length) (hj:j < q.length) :
 (upd q X Y).getD j 0=q.getD j 0+(if j=X then 1 else 0) - (if j=Y then 1 else 0):=by
 unfold upd
 simp only[List.getD_eq_getElem?_getD,List.getElem?_set,List.length_set]
 by_cases h1:j=X <;> by_cases h2:j=Y <;> simp[h1,h2,hX,hY,hj,eq_comm] <;> (try subst h1) <;> (try subst h2) <;> simp_all [eq_comm] <;> omega
theorem WW (q:List Int) (X Y:Nat) (v:Int) (hX:X < q.length):(q.set X v).getD Y 0=if Y=X then v else q.getD Y 0:=by
 simp only[List.getD_eq_getElem?_getD,List.getElem?_set]
 by_cases h:X=Y
 ·subst h;simp[hX]
 ·rw[if_neg h,if_neg (λe=>h e.symm)]
theorem gM (pu:Af) (n:Nat) (ih0:Sl→Int→Int→Int→Sl→Sl→List Value→Option Value) (X Y i:Nat) (s t u:Sl) (z k:Int) (q:List Int) (hq:q.length=5) (hX:X < 5) (hY:Y < 5) (hi:i < 1000)
 (hb:∀ j,j < 5→-1000≤q.getD j 0∧q.getD j 0≤1000) :
 Ua pu n ih0 (Int.ofNat X) (Int.ofNat Y) s z (Int.ofNat i) false k t u (q.map I)=ih0 s z (Int.ofNat (i+1)) k t u ((upd q X Y).map I):=by
 unfold Ua
 have gX : q[X]'(by omega) = q.getD X 0 := by simp [List.getD_eq_getElem?_getD, hq, hX]
 have w1:Aj .i64 (Int.add (q.getD X 0) 1)=q.getD X 0+1:=Oe _ (by have:=hb X hX;show _≤q.getD X 0+1;omega) (by have:=hb X hX;show q.getD X 0+1≤_;omega)
 have s1:BM ([I (q.getD X 0+1)]:List Value) X (q.map I)=(q.set X (q.getD X 0+1)).map I:=by
  rw[Jh _ _ _ (by simp[hq,hX]),List.map_set]
 have hl1:(q.set X (q.getD X 0+1)).length=5:=by simp[hq]
 have gY : (q.set X (q.getD X 0 + 1))[Y]'(by omega) = (q.set X (q.getD X 0 + 1)).getD Y 0 := by simp [List.getD_eq_getElem?_getD, hq, hY]
 have hbY:-1001≤(q.set X (q.getD X 0+1)).getD Y 0∧(q.set X (q.getD X 0+1)).getD Y 0≤1001:=by
  have h1:=hb X hX
  have h2:=hb Y hY
  rw[WW _ _ _ _ (by omega)]
  split <;> omega
 have w2:Aj .i64 (Int.sub ((q.set X (q.getD X 0+1)).getD Y 0) 1)=(q.set X (q.getD X 0+1)).getD Y 0 - 1:=Oe _ (by show _≤(q.set X (q.getD X 0+1)).getD Y 0 - 1;omega) (by show (q.set X (q.getD X 0+1)).getD Y 0 - 1≤_;omega)
 have s2:BM ([I ((q.set X (q.getD X 0+1)).getD Y 0 - 1)]:List Value) Y ((q.set X (q.getD X 0+1)).map I)=(upd q X Y).map I:=by
  rw[Jh _ _ _ (by simp[hq,hY]),←List.map_set];rfl
 have e1:(q.map I)[X]?=some (I (q.getD X 0)):=by rw[Aja q X (by omega),gX]
 have e2:((q.set X (q.getD X 0+1)).map I)[Y]?=some (I ((q.set X (q.getD X 0+1)).getD Y 0)):=by rw[Aja _ Y (by omega),gY]
 simp only[AA,Bh,kL,Ak,Cx,Ac,blt_eq,hX,hY,decide_true,BZ,Nat.zero_add,Nat.mul_one,e1,BP,w1,s1,ble_eq,AV,List.length_map,hq,hl1,CF,Bool.and_true,Nat.succ_le_of_lt hX,Nat.succ_le_of_lt hY,e2,w2,s2,DC i (by omega:i < 1000000)]
theorem OG {l:List Int} {i:Nat} (h:i < l.length) (x:Int):(l.take (i+1)).count x=(l.take i).count x+(if l[i]=x then 1 else 0):=by
 rw[List.take_add_one,List.getElem?_eq_getElem h,Option.toList_some,List.count_append,List.count_singleton]
 simp only[beq_iff_eq]
theorem WX {k:Int} {l:List Int} {i:Nat} (h:i < l.length) (h1:OO k (l.take i)) (h2:0≤l[i]∧l[i] < k):OO k (l.take (i+1)):=by
 rw[List.take_add_one,List.getElem?_eq_getElem h]
 intro x hx
 simp only[Option.toList_some,List.mem_append,List.mem_singleton] at hx
 rcases hx with hx | rfl
 ·exact h1 x hx
 ·exact h2
theorem Uf {k:Int} {l:List Int} (h:OO k l) {x:Int} (hx:k≤x):l.count x=0:=by
 rw[List.count_eq_zero]
 intro hm
 have:=(h x hm).2
 omega
theorem l47 (n m fl fl' K:Nat) (h w:List Int) (hh:h.length≤10) (hw:w.length=h.length) (hK1:1≤K) (hK:K≤5):∀ (f i:Nat) (q:List Int),h.length - i < f→i≤h.length→q.length=5 →
 (∀ j,j < 5→q.getD j 0=(h.take i).count (j:Int) - (w.take i).count (j:Int))→OO K (h.take i)→OO K (w.take i) →
 RP (FK (n+1)) m f (sl fl h) (Int.ofNat h.length) (Int.ofNat i) (Int.ofNat K) (sl fl h) (sl fl' w) (q.map I)=some (I (Sn (OO K (h.drop i)∧OO K (w.drop i)) (Sn (evn K h w) 0 17) 2)):=by
 intro f
 induction f with
 | zero=>intro i q hi;omega
 | succ f ih =>
  intro i q hi hil hq hinv hih hiw
  show WK (FK (n+1)) m (RP (FK (n+1)) m f) _ _ _ _ _ _ _=_
  unfold WK
  rw[Bh,kL,Ak]
  by_cases hlt:i < h.length
  ·have hlw:i < w.length:=by omega
   have e1:h.drop i=h[i]::h.drop (i+1):=List.drop_eq_getElem_cons hlt
   have e2:w.drop i=w[i]::w.drop (i+1):=List.drop_eq_getElem_cons hlw
   have hk:Aj .i64 (Int.sub (Int.ofNat K) 1)=(K:Int) - 1:=Oe _ (by show _≤(K:Int) - 1;omega) (by show (K:Int) - 1≤_;omega)
   rw[FM hlt]
   simp only[Ak,Cx,Ac,I4,GX,blt_eq,hlt,hlw,decide_true,CF,Bool.true_and,BZ,Nat.mul_one,Aja h i hlt,Aja w i hlw,BP,hk]
   rw[show (0:Int)=Int.ofNat 0 from rfl,show (Value.int IntKind.i64 (Int.ofNat 0))=I 0 from rfl,p52 n 0 (bb (AY w[i] h[i]) w[i] h[i]) ((K:Int) - 1)]
   simp only[Ac,BU]
   rw[e1,e2]
   by_cases c:(0≤h[i]∧h[i] < K)∧(0≤w[i]∧w[i] < K)
   ·have d1 : (decide (0 ≤ bb (AY w[i] h[i]) w[i] h[i]) && decide (bb (AY w[i] h[i]) w[i] h[i] ≤ (K : Int) - 1)) = true := by
     cases hc:AY w[i] h[i] <;> rw[BL] <;> simp only[Bool.and_eq_true,decide_eq_true_iff,if_true,Bool.false_eq_true,if_false] <;> exact⟨by omega,by omega⟩
    have d2:nt (AY (bb (AY h[i] w[i]) w[i] h[i]) (Int.ofNat K))=false:=by
     cases hc:AY h[i] w[i] <;> simp[JY]
     all_goals omega
    rw[d1,d2]
    simp only[Km,Bool.not_true,AA]
    obtain⟨X,hX⟩:∃ X:Nat,h[i]=Int.ofNat X:=⟨h[i].toNat,(Int.toNat_of_nonneg c.1.1).symm⟩
    obtain⟨Y,hY⟩:∃ Y:Nat,w[i]=Int.ofNat Y:=⟨w[i].toNat,(Int.toNat_of_nonneg c.2.1).symm⟩
    rw[hX,hY] at c
    simp only[Int.ofNat_eq_natCast] at c
    have hbq:∀ j,j < 5→-1000≤q.getD j 0∧q.getD j 0≤1000:=fun j hj=>by
     have:=hinv j hj
     have c1:=List.count_le_length (a:=(j:Int)) (l:=h.take i)
     have c2:=List.count_le_length (a:=(j:Int)) (l:=w.take i)
     simp only[List.length_take] at c1 c2
     omega
    rw[hX,hY,gM _ _ _ X Y i _ _ _ _ _ q hq (by omega) (by omega) (by omega) hbq,ih (i+1) (upd q X Y) (by omega) (by omega) (by rw[Zy,hq]) ?_ (WX hlt hih (by rw[hX];simp;omega)) (WX hlw hiw (by rw[hY];simp;omega))]
    ·congr 2
     refine Ue ?_ _ _
     rw[OT,OT]
     refine⟨λg=>⟨⟨?_,g.1⟩,?_,g.2⟩,λg=>⟨g.1.2,g.2.2⟩⟩
     ·simp;omega
     ·simp;omega
    ·intro j hj
     rw[Zz q X Y j (by omega) (by omega) (by omega),hinv j hj,OG hlt,OG hlw,hX,hY]
     have t1:(Int.ofNat X=(j:Int))↔j=X:=by simp;omega
     have t2:(Int.ofNat Y=(j:Int))↔j=Y:=by simp;omega
     simp only[t1,t2]
     split <;> split <;> simp <;> omega
   ·rw[I8 (by rw[OT,OT];exact λg=>c ⟨g.1.1,g.2.1⟩)]
    by_cases d1:(decide (0≤bb (AY w[i] h[i]) w[i] h[i]) && decide (bb (AY w[i] h[i]) w[i] h[i]≤(K:Int) - 1))=true
    ·have d2 : nt (AY (bb (AY h[i] w[i]) w[i] h[i]) (Int.ofNat K)) = true := by
      cases hc:AY w[i] h[i] <;> rw[hc] at d1 <;> cases hc2:AY h[i] w[i] <;> rw[JY] at hc hc2 <;> simp only[Ak,AA,Bool.and_eq_true,decide_eq_true_iff,decide_eq_false_iff_not] at d1 hc hc2 <;> obtain⟨d1,d3⟩:=d1 <;> have d1:=of_decide_eq_true d1 <;> have d3:=of_decide_eq_true d3 <;> simp[JY] <;> omega
     rw[d1,d2];rfl
    ·rw[Bool.not_eq_true] at d1
     rw[d1];rfl
  ·have:i=h.length:=by omega
   subst this
   rw[FL hlt,AA,nT _ _ _ hq]
   rw[Hz (p:=OO _ _∧OO _ _) (by rw[List.drop_of_length_le (Nat.le_refl _),List.drop_of_length_le (by omega)];simp[OO])]
   rw[List.take_length] at hih hinv
   rw[←hw,List.take_length] at hiw hinv
   congr 2
   refine Ue ⟨λg x hx=>?_,λg j hj=>?_⟩ _ _
   ·have h1:=hinv x (by omega)
    have h2:=g x (by omega)
    rw[List.getD_eq_getElem?_getD,List.getElem?_eq_getElem (by omega),Option.getD_some,h2] at h1
    omega
   ·have h1:=hinv j (by omega)
    rw[List.getD_eq_getElem?_getD,List.getElem?_eq_getElem hj,Option.getD_some] at h1
    rw[h1]
    by_cases hx:j < K
    ·rw[g j hx];omega
    ·rw[Uf hih (by omega:(K:Int)≤(j:Int)),Uf hiw (by omega:(K:Int)≤(j:Int))];rfl
theorem p47 (n fl fl':Nat) (k:Int) (h w:List Int):FK (n+2) 47 [tr fl fl' k h w]=some (I (chk k h w)):=by
 refine Eq.trans (b := oo (FK (n + 1) 52 [I 1, I k, I 5]) none (fun v => oo (Bf v) none fun b => bb (nt b) (some (I 1)) (bb (Bd (Int.ofNat h.length) 0) (some (I 4)) (bb (AY 10 (Int.ofNat h.length)) (some (I 3)) (bb (nt (Bd (Int.ofNat w.length) (Int.ofNat h.length))) (some (I 5))
  (RP (FK (n+1)) 1000000 1000000 (sl fl h) (Int.ofNat h.length) (Int.ofNat 0) k (sl fl h) (sl fl' w) (([0,0,0,0,0]:List Int).map I))))))) (by kernel_rfl) ?_
 rw[p52]
 simp only[Ac,BU]
 unfold chk
 by_cases hk:1≤k∧k≤5
 ·obtain⟨K,rfl⟩:∃ K:Nat,k=K:=⟨k.toNat,by omega⟩
  have d:(decide ((1:Int)≤K) && decide ((K:Int)≤5))=true:=by simp;omega
  rw[d,Hz hk]
  simp only[Km,Bool.not_true,AA,Lr,JY]
  by_cases h0:h.length=0
  ·rw[Hz h0];simp[h0]
  ·rw[I8 h0]
   have d3:(Int.ofNat h.length == 0)=false:=by simp;exact λe=>h0 (by rw[e];rfl)
   by_cases h1:10 < h.length
   ·have d2:decide ((10:Int) < Int.ofNat h.length)=true:=by simp;omega
    rw[Hz h1,d2,d3];rfl
   ·have d2:decide ((10:Int) < Int.ofNat h.length)=false:=by simp;omega
    rw[I8 h1,d2,d3]
    simp only[AA]
    by_cases h2:w.length=h.length
    ·have d4:(Int.ofNat w.length == Int.ofNat h.length)=true:=by simp[h2]
     rw[Hz h2,d4]
     simp only[Bool.not_true,AA]
     have:=l47 n 1000000 fl fl' K h w (by omega) h2 (by omega) (by omega) 1000000 0 [0,0,0,0,0] (by omega) (by omega) rfl (by intro j hj;match j,hj with | 0,_=>rfl | 1,_=>rfl | 2,_=>rfl | 3,_=>rfl | 4,_=>rfl | j+5,hj=>omega) (by simp[OO]) (by simp[OO])
     rw[show ((K:Nat):Int)=Int.ofNat K from rfl,this]
     rfl
    ·have d4:(Int.ofNat w.length == Int.ofNat h.length)=false:=by simp;omega
     rw[I8 h2,d4];rfl
 ·have d:(decide ((1:Int)≤k) && decide (k≤5))=false:=by simp;omega
  rw[d,I8 hk];rfl
end Go.MnSM
set_option maxRecDepth 100000
namespace Go.MnSM
open Go.Sp Go.MnS
theorem l26 (pu:Af) (n fl fl':Nat) (l:List Int) (hl:l.length < 1000):∀ (f i:Nat),l.length - i < f→i≤l.length→SQ pu n f (sl fl l) (sl fl' l) (Int.ofNat i)=some (Value.bool true):=by
 intro f
 induction f with
 | zero=>intro i h;omega
 | succ f ih =>
  intro i h hi
  show Wz pu n (SQ pu n f) _ _ _=_
  unfold Wz
  by_cases hlt:i < l.length
  ·rw[I4,FM hlt]
   have:nt (Bd l[i] l[i])=false:=by simp[Lr]
   simp only[Ak,Cx,Ac,I4,GX,blt_eq,hlt,decide_true,CF,Bool.true_and,BZ,Nat.mul_one,Aja l i hlt,BP,DC i (by omega),this,AA]
   exact ih (i+1) (by omega) (by omega)
  ·rw[I4,FL hlt];rfl
theorem p26 (n fl fl':Nat) (l:List Int) (hl:l.length < 50):FK (n+1) 26 [S fl l,S fl' l]=some (Value.bool true):=by
 refine Eq.trans (b:=bb (nt (Bd (Int.ofNat l.length) (Int.ofNat l.length))) (some (Value.bool false)) (SQ (FK n) 1000000 1000000 (sl fl l) (sl fl' l) (Int.ofNat 0))) (by kernel_rfl) ?_
 have:nt (Bd (Int.ofNat l.length) (Int.ofNat l.length))=false:=by simp[Lr]
 rw[this,AA]
 exact l26 (FK n) 1000000 fl fl' l (by omega) 1000000 0 (by omega) (by omega)
noncomputable def ZA (a b:Int) (N:Nat):Int:=Sn (0≤a∧a < N∧0≤b∧b < N) (Sn (a < b) 0 7) 2
theorem ZB (pu:Af) (n:Nat) (a b:Int) (c:Bool):PK pu n a b c=some (I (bb c 2 (Sn (a < b) 0 7))):=by
 unfold PK
 cases c with
 | true=>rfl
 | false =>
  by_cases h:a < b
  ·have:nt (AY a b)=false:=by simp[JY,h]
   rw[this,Hz h];rfl
  ·have:nt (AY a b)=true:=by simp[JY];omega
   rw[this,I8 h];rfl
theorem sI (a b:Int):bb (AY b a) b a=min a b:=by
 by_cases h:b < a
 ·have:AY b a=true:=by simp[JY,h]
  rw[this,Ak];omega
 ·have:AY b a=false:=by simp[JY];omega
  rw[this,AA];omega
theorem gP (a b:Int):bb (AY a b) b a=max a b:=by
 by_cases h:a < b
 ·have:AY a b=true:=by simp[JY,h]
  rw[this,Ak];omega
 ·have:AY a b=false:=by simp[JY];omega
  rw[this,AA];omega
theorem Acc {x y:Int}:(AY x y=true↔x < y):=by rw[JY,decide_eq_true_iff]
theorem Acd {x y:Int}:(AY x y=false↔¬ x < y):=by rw[JY,decide_eq_false_iff_not]
theorem p57 (n fl fl':Nat) (k a b:Int) (h w:List Int):FK (n+1) 57 [tr fl fl' k h w,I a,I b]=some (I (ZA a b h.length)):=by
 refine Eq.trans (b:=bb (AY (bb (AY b a) b a) 0) (PK (FK n) 1000000 a b true) (PK (FK n) 1000000 a b (nt (AY (bb (AY a b) b a) (Int.ofNat h.length))))) (by kernel_rfl) ?_
 rw[ZB,ZB,sI,gP]
 unfold ZA
 by_cases c:0≤a∧a < h.length∧0≤b∧b < h.length
 ·have d1:AY (min a b) 0=false:=Acd.2 (by omega)
  have d2:AY (max a b) (Int.ofNat h.length)=true:=Acc.2 (by show max a b < (h.length:Int);omega)
  rw[Hz c,d1,d2];rfl
 ·rw[I8 c]
  by_cases d1:min a b < 0
  ·rw[Acc.2 d1];rfl
  ·have d2:AY (max a b) (Int.ofNat h.length)=false:=Acd.2 (by show ¬ max a b < (h.length:Int);omega)
   rw[Acd.2 d1,d2];rfl
def swp (h:List Int) (A B:Nat):List Int:=(h.set A (h.getD B 0)).set B (h.getD A 0)
theorem Ow (h:List Int) (A B:Nat):(swp h A B).length=h.length:=by simp[swp]
theorem K8 {n:Nat} (h:n≤1000):EQ n 8=true:=by
 unfold EQ;rw[ble_eq];simp;omega
theorem AgT (l:List Int):Aq (l.length*1) (l.map I)=l.map I:=by rw[Cg,Nat.mul_one,List.take_of_length_le (by simp)]
theorem gQ (l:List Int) (n:Nat) (h:n=l.length):Aq (n*1) (Am 0 (l.map I))=l.map I:=by rw[h,Bz,List.drop_zero,AgT]
theorem AgU (l:List Int):List.take l.length (l.map I)=l.map I:=List.take_of_length_le (by simp)
theorem gT (l:List Int) (i:Nat) (h:i < l.length):(l.map I)[i]?=some (I (l.getD i 0)):=by rw[Aja l i h];simp[h]
theorem p43 (n fl fl' A B:Nat) (k:Int) (h w:List Int) (hh:h.length≤1000) (hw:w.length≤1000) (hA:A < h.length) (hB:B < h.length) :
 FK (n+1) 43 [tr fl fl' k h w,I (Int.ofNat A),I (Int.ofNat B)]=some (tr 0 0 k (swp h A B) w):=by
 have e:FK (n+1) 43 [tr fl fl' k h w,I (Int.ofNat A),I (Int.ofNat B)]=nL (FK n) 1000000 k (sl fl h) (sl fl' w) (Int.ofNat A) (Int.ofNat B):=by kernel_rfl
 rw[e]
 unfold nL
 have r1:EQ (0+h.length) 8=true:=K8 (by omega)
 have r2:EQ (0+w.length) 8=true:=K8 (by omega)
 have s1:BM ([I (h.getD B 0)]:List Value) A (h.map I)=(h.set A (h.getD B 0)).map I:=by rw[Jh _ _ _ (by simpa using hA),List.map_set]
 have s2:BM ([I (h.getD A 0)]:List Value) B ((h.set A (h.getD B 0)).map I)=(swp h A B).map I:=by rw[Jh _ _ _ (by simpa using hB),←List.map_set];rfl
 simp only[I4,GX,r1,r2,Ak,Bh,AgU,Cg,Nat.mul_one,kL,Cx,Ac,blt_eq,hA,hB,decide_true,CF,Bool.true_and,Bool.and_true,BZ,Nat.zero_add,Nat.mul_one,gT h A hA,gT h B hB,BP,s1,s2,ble_eq,AV,List.length_map,List.length_set,Ow,Nat.succ_le_of_lt hA,Nat.succ_le_of_lt hB,Bz,List.drop_zero,Cg,Nat.le_refl]
 have t1:List.take h.length ((swp h A B).map I)=(swp h A B).map I:=List.take_of_length_le (by simp[Ow])
 have t2:List.take w.length (w.map I)=w.map I:=List.take_of_length_le (by simp)
 have r3:EQ h.length 8=true:=K8 (by omega)
 have r4:EQ w.length 8=true:=K8 (by omega)
 simp only[r3,r4,t1,t2,kL,Ak]
 unfold tr S sl
 rw[Ow]
end Go.MnSM
set_option maxRecDepth 100000
namespace Go.MnSM
open Go.Sp Go.MnS
def wr:List Int→List Int→Nat→List Int
 | x::h,y::w,i=>if x=y then wr h w (i+1) else (i:Int)::wr h w (i+1)
 | _,_,_=>[]
def bv:List Int→List Int→Nat
 | x::h,y::w=>(if x=y then 0 else 1)+2*bv h w
 | _,_=>0
theorem R3:∀ (h w:List Int),bv h w < 2 ^ h.length
 | [],w=>by simp[bv]
 | x::h,[]=>by simp[bv];exact Nat.two_pow_pos _
 | x :: h, y :: w => by
  have:=R3 h w
  simp only[bv,List.length_cons,Nat.pow_succ]
  split <;> omega
def bl:Nat→Nat→Nat→List Int
 | 0,_,_=>[]
 | f+1,i,s=>if s % 2=1 then (i:Int)::bl f (i+1) (s / 2) else bl f (i+1) (s / 2)
noncomputable def eqS (o:Option Value) (l:List Int):Bool:=oo o false λv=>oo (Bj 1 v) false λs=>an (Nat.beq s.n (len l)) (an (Nat.beq s.fl 0) (FE s.cs (AP I l)))
theorem Ace {o:Option Value} {l:List Int} (h:eqS o l=true):o=some (S 0 l):=by
 unfold eqS at h
 cases o with
 | none=>cases h
 | some v =>
  rw[Ac] at h
  cases hs:Bj 1 v with
  | none=>rw[hs] at h;cases h
  | some s =>
   rw[hs,Ac] at h
   obtain⟨h1,h2⟩:=Av h
   obtain⟨h3,h4⟩:=Av h2
   have g1:s.n=len l:=Nat.eq_of_beq_eq_true h1
   have g2:s.fl=0:=Nat.eq_of_beq_eq_true h3
   have g3:s.cs=AP I l:=LB h4
   rw[Qh hs]
   have:s=sl 0 l:=by
    cases s
    rw[AV] at g1
    rw[Hl] at g3
    simp only at g1 g2 g3
    rw[g1,g2,g3];rfl
   rw[this];rfl
theorem AgV (n:Nat):NL (λs=>eqS (FK (n+2) 62 [.int .u16 (Int.ofNat s)]) (bl 10 0 s)) 1024=true:=by kernel_rfl
theorem p62 (n s:Nat) (hs:s < 1024):FK (n+2) 62 [.int .u16 (Int.ofNat s)]=some (S 0 (bl 10 0 s)):=Ace (Rp (AgV n) s hs)
theorem Acf (Z i:Nat) (hZ:Z < 2 ^ i) (hi:i < 10):jF .u16 (Int.ofNat Z) (QW .u16 1 i)=Int.ofNat (Z+2 ^ i):=by
 have e1:QW .u16 1 i=Int.ofNat (2 ^ i):=by
  match i,hi with
  | 0,_=>rfl | 1,_=>rfl | 2,_=>rfl | 3,_=>rfl | 4,_=>rfl | 5,_=>rfl | 6,_=>rfl | 7,_=>rfl | 8,_=>rfl | 9,_=>rfl
  | i+10,h=>omega
 rw[e1]
 have h2:2 ^ i≤2 ^ 9:=Nat.pow_le_pow_right (by omega) (by omega)
 have e2:Nl .u16 Z (2 ^ i)=true:=by
  unfold Nl
  have:GA .u16=65535:=rfl
  rw[this,ble_eq,ble_eq];simp;omega
 show bb (Nl .u16 Z (2 ^ i)) (Int.ofNat (Nat.lor Z (2 ^ i))) _=_
 rw[e2,Ak]
 have:=Nat.two_pow_add_eq_or_of_lt hZ 1
 rw[Nat.mul_one] at this
 have h3:Nat.lor Z (2 ^ i)=2 ^ i ||| Z:=Nat.or_comm Z (2 ^ i)
 rw[h3,←this];congr 1;omega
theorem l51 (pu:Af) (n fl fl':Nat) (k:Int) (h w:List Int) (hh:h.length≤10) (hw:w.length=h.length):∀ (f i Z:Nat),h.length - i < f→i≤h.length→Z < 2 ^ i →
 RS pu n f (Int.ofNat Z) (sl fl h) (Int.ofNat h.length) (Int.ofNat i) k (sl fl h) (sl fl' w)=some (.int .u16 (Int.ofNat (Z+2 ^ i*bv (h.drop i) (w.drop i)))):=by
 intro f
 induction f with
 | zero=>intro i Z hi;omega
 | succ f ih =>
  intro i Z hi hil hZ
  show WQ pu n (RS pu n f) _ _ _ _ _ _ _=_
  unfold WQ
  by_cases hlt:i < h.length
  ·have hlw:i < w.length:=by omega
   have e1:h.drop i=h[i]::h.drop (i+1):=List.drop_eq_getElem_cons hlt
   have e2:w.drop i=w[i]::w.drop (i+1):=List.drop_eq_getElem_cons hlw
   rw[FM hlt]
   simp only[Ak,Cx,Ac,I4,GX,blt_eq,hlt,hlw,decide_true,CF,Bool.true_and,BZ,Nat.mul_one,Aja h i hlt,Aja w i hlw,BP,WP,DC i (by omega:i < 1000000),Acf Z i hZ (by omega)]
   rw[e1,e2]
   have hp:2 ^ (i+1)=2*2 ^ i:=by rw[Nat.pow_succ];omega
   by_cases hx:h[i]=w[i]
   ·have:nt (Bd h[i] w[i])=false:=by simp[Lr,hx]
    rw[this,AA,ih (i+1) Z (by omega) (by omega) (by omega)]
    simp only[bv,if_pos hx]
    congr 3
    rw[hp,Nat.zero_add,Nat.mul_comm 2 (2 ^ i),Nat.mul_assoc]
   ·have:nt (Bd h[i] w[i])=true:=by simp[Lr,hx]
    rw[this,Ak,ih (i+1) (Z+2 ^ i) (by omega) (by omega) (by omega)]
    simp only[bv,if_neg hx]
    congr 3
    rw[hp,Nat.mul_add,Nat.mul_one,Nat.mul_comm 2 (2 ^ i),Nat.mul_assoc];omega
  ·have:i=h.length:=by omega
   subst this
   rw[FL hlt,AA,List.drop_of_length_le (Nat.le_refl _)]
   simp[bv,WO]
theorem p51 (n fl fl':Nat) (k:Int) (h w:List Int) (hh:h.length≤10) (hw:w.length=h.length):FK (n+1) 51 [tr fl fl' k h w]=some (.int .u16 (Int.ofNat (bv h w))):=by
 refine Eq.trans (b:=RS (FK n) 1000000 1000000 (Int.ofNat 0) (sl fl h) (Int.ofNat h.length) (Int.ofNat 0) k (sl fl h) (sl fl' w)) (by kernel_rfl) ?_
 rw[l51 (FK n) 1000000 fl fl' k h w hh hw 1000000 0 0 (by omega) (by omega) (by simp)]
 simp
theorem sJ (l:List Int) (h:l.length < 1000):GV 1 8 l.length (2*l.length) 1 (l.map I)=true:=by
 unfold GV
 have e:(2*l.length) / 2=l.length:=by omega
 have e2:(2*l.length) % 2=0:=by omega
 rw[e,e2,K8 (by omega)]
 have b1:Nat.ble (l.length+1) l.length=false:=by rw[ble_eq];simp
 have b2:Nat.ble (0+l.length*1) (len (l.map I))=true:=by rw[ble_eq];simp
 have b3:Nat.beq (0+l.length*1) (len (l.map I))=true:=by simp
 rw[b1,b2,b3];rfl
end Go.MnSM
namespace Go.MdM
section
variable (N:Nat) (H W:Nat→Int)
abbrev Bn:=Nat→Bool
def els (S:Bn):List Nat:=(List.range N).filter S
def cn (S:Bn) (f:Nat→Int) (x:Int):Nat:=(List.range N).countP (λi=>S i && f i == x)
def card (S:Bn):Nat:=(List.range N).countP S
def Bp (S:Bn):Prop:=∀ x,cn N S H x=cn N S W x
def del (S:Bn) (i:Nat):Bn:=λj=>S j && !(j == i)
def rem (S:Bn) (l:List Nat):Bn:=λj=>S j && !(l.contains j)
def mx (l:List Nat):Nat:=l.foldl max 0
noncomputable def one (p:Prop):Nat:=@ite _ p (Classical.propDecidable p) 1 0
noncomputable def Bq:Nat→Bn→Nat
 | 0,_=>0
 | k+1,S=>mx ((els N S).map λi=>Bq k (del S i))+one (Bp N H W S)
noncomputable def M (S:Bn):Nat:=Bq N H W (card N S) S
end
variable {N:Nat} {H W:Nat→Int}
theorem WY {p:Prop} (h:p):one p=1:=if_pos h
theorem WZ {p:Prop} (h:¬ p):one p=0:=if_neg h
theorem Yc (p:Prop):one p≤1:=by by_cases h:p;rw[WY h];exact Nat.le_refl _;rw[WZ h];exact Nat.zero_le _
theorem Fh {S:Bn} {i:Nat}:i∈els N S↔i < N∧S i=true:=by simp[els]
theorem nU (l:List Nat) (a:Nat):l.foldl max a=max a (mx l):=by
 unfold mx
 induction l generalizing a with
 | nil=>simp
 | cons b l ih=>simp only[List.foldl_cons];rw[ih,ih (max 0 b)];omega
theorem UZ (a:Nat) (l:List Nat):mx (a::l)=max a (mx l):=by
 show List.foldl max (max 0 a) l=_
 rw[nU];omega
theorem sK {l:List Nat} {b:Nat} (h:∀ a∈l,a≤b):mx l≤b:=by
 induction l with
 | nil=>exact Nat.zero_le _
 | cons a l ih =>
  rw[UZ]
  have:=h a (by simp)
  have:=ih (λx hx=>h x (by simp[hx]))
  omega
theorem ZC {l:List Nat} {a:Nat} (h:a∈l):a≤mx l:=by
 induction l with
 | nil=>cases h
 | cons b l ih =>
  rw[UZ]
  rcases List.mem_cons.1 h with rfl | h
  ·omega
  ·have:=ih h;omega
theorem U0 {l:List Nat} (h:mx l≠0):mx l∈l:=by
 induction l with
 | nil=>exact absurd rfl h
 | cons b l ih =>
  rw[UZ] at h ⊢
  by_cases hb:mx l≤b
  ·rw[show max b (mx l)=b by omega];simp
  ·have:=ih (by omega)
   rw[show max b (mx l)=mx l by omega];simp[this]
theorem countP_split {l:List Nat} {p q r:Nat→Bool} (h:∀ i∈l,p i=(q i || r i)) (hd:∀ i∈l,¬ (q i=true∧r i=true)):l.countP p=l.countP q+l.countP r:=by
 induction l with
 | nil=>rfl
 | cons a l ih =>
  have h1:=h a (by simp)
  have h2:=hd a (by simp)
  have:=ih (λi hi=>h i (by simp[hi])) (λi hi=>hd i (by simp[hi]))
  simp only[List.countP_cons,this]
  cases hq:q a <;> cases hr:r a <;> simp[hq,hr] at h1 h2 <;> simp[h1] <;> omega
theorem K3 {S A B:Bn} (f:Nat→Int) (x:Int) (h:∀ i,i < N→S i=(A i || B i)) (hd:∀ i,i < N→¬ (A i=true∧B i=true)):cn N S f x=cn N A f x+cn N B f x:=by
 unfold cn
 apply countP_split
 ·intro i hi
  rw[h i (by simpa using hi)]
  cases A i <;> cases B i <;> simp
 ·intro i hi hc
  exact hd i (by simpa using hi) (by simp at hc;exact⟨hc.1.1,hc.2.1⟩)
theorem R4 {S A B:Bn} (h:∀ i,i < N→S i=(A i || B i)) (hd:∀ i,i < N→¬ (A i=true∧B i=true)):card N S=card N A+card N B:=by
 unfold card
 apply countP_split
 ·intro i hi;exact h i (by simpa using hi)
 ·intro i hi;exact hd i (by simpa using hi)
theorem R5 (N i:Nat) (h:i < N) (p:Nat→Bool):(List.range N).countP (fun j=>(j == i) && p j)=if p i then 1 else 0:=by
 induction N with
 | zero=>omega
 | succ n ih =>
  rw[List.range_succ,List.countP_append]
  by_cases hi:i < n
  ·rw[ih hi]
   have:(n == i)=false:=by simp;omega
   simp[this]
  ·have:i=n:=by omega
   subst this
   have:(List.range i).countP (fun j=>(j == i) && p j)=0:=by
    rw[List.countP_eq_zero];intro a ha;simp at ha;simp;intro h;omega
   rw[this];simp
theorem I9 {S:Bn} {i:Nat} (hi:i < N) (hs:S i=true) (f:Nat→Int) (x:Int):cn N S f x=cn N (del S i) f x+if f i=x then 1 else 0:=by
 rw[K3 (A:=del S i) (B:=λj=>j == i) f x]
 ·unfold cn
  rw[R5 N i hi (λj=>f j == x)]
  by_cases e:f i=x <;> simp[e]
 ·intro j hj;unfold del;by_cases h:j=i
  ·subst h;simp[hs]
  ·simp only[beq_eq_false_iff_ne.2 h,Bool.not_false,Bool.and_true,Bool.or_false]
 ·intro j hj;simp[del]
theorem Gn {S:Bn} {i:Nat} (hi:i < N) (hs:S i=true):card N S=card N (del S i)+1:=by
 rw[R4 (A:=del S i) (B:=λj=>j == i)]
 ·congr 1;unfold card
  have:=R5 N i hi (λj=>true)
  simpa using this
 ·intro j hj;unfold del;by_cases h:j=i
  ·subst h;simp[hs]
  ·simp only[beq_eq_false_iff_ne.2 h,Bool.not_false,Bool.and_true,Bool.or_false]
 ·intro j hj;simp[del]
theorem Jb {S:Bn} (h:card N S=0):∀ i,i < N→S i=false:=by
 intro i hi
 unfold card at h
 rw[List.countP_eq_zero] at h
 simpa using h i (by simpa using hi)
theorem M9 {S:Bn} {i:Nat} (hi:i < N) (hs:S i=true):0 < card N S:=by
 have:=Gn hi hs;omega
theorem Ha (S:Bn):(els N S).length=card N S:=by unfold els card;rw[List.countP_eq_length_filter]
theorem VL (S:Bn) (h:card N S≠0):M N H W S=mx ((els N S).map fun i=>M N H W (del S i))+one (Bp N H W S):=by
 obtain⟨k,hk⟩:=Nat.exists_eq_succ_of_ne_zero h
 unfold M
 rw[hk]
 show mx ((els N S).map λi=>Bq N H W k (del S i))+_=_
 congr 2
 apply List.map_congr_left
 intro i hi
 have:=Fh.1 hi
 have:=Gn this.1 this.2
 rw[show card N (del S i)=k by omega]
theorem Kc {S:Bn} (h:card N S=0):M N H W S=0:=by unfold M;rw[h];rfl
theorem sM {S:Bn} {i:Nat} (hi:i < N) (hs:S i=true):M N H W (del S i)≤M N H W S:=by
 rw[VL S (by have:=M9 hi hs;omega)]
 have:=ZC (List.mem_map.2 ⟨i,Fh.2 ⟨hi,hs⟩,rfl⟩:M N H W (del S i)∈(els N S).map λi=>M N H W (del S i))
 omega
theorem gU {S:Bn} {i:Nat} (hi:i < N) (hs:S i=true) (he:Bp N H W S):M N H W (del S i)+1≤M N H W S:=by
 rw[VL S (by have:=M9 hi hs;omega),WY he]
 have:=ZC (List.mem_map.2 ⟨i,Fh.2 ⟨hi,hs⟩,rfl⟩:M N H W (del S i)∈(els N S).map λi=>M N H W (del S i))
 omega
def Pe (N:Nat) (A B:Bn):Prop:=∀ i,i < N→A i=true→B i=true
theorem Ox {A B:Bn} (h:∀ i,i < N→A i=B i):els N A=els N B:=by
 unfold els;apply List.filter_congr;intro i hi;exact h i (by simpa using hi)
theorem Hy {A B:Bn} (h:∀ i,i < N→A i=B i):card N A=card N B:=by rw[←Ha,←Ha,Ox h]
theorem OU {A B:Bn} (h:∀ i,i < N→A i=B i) (f:Nat→Int) (x:Int):cn N A f x=cn N B f x:=by
 unfold cn;apply List.countP_congr;intro i hi;rw[h i (by simpa using hi)]
theorem OW {A B:Bn} (h:∀ i,i < N→A i=B i):Bp N H W A↔Bp N H W B:=by
 unfold Bp;constructor <;> intro g x
 ·rw[←OU h,←OU h];exact g x
 ·rw[OU h,OU h];exact g x
theorem Pg {A B:Bn} (h:∀ i,i < N→A i=B i) (k:Nat):∀ i,i < N→del A k i=del B k i:=by intro i hi;unfold del;rw[h i hi]
theorem W9:∀ (k:Nat) {A B:Bn},(∀ i,i < N→A i=B i)→Bq N H W k A=Bq N H W k B
 | 0,_,_,_=>rfl
 | k + 1, A, B, h => by
  unfold Bq
  rw[Ox h,show one (Bp N H W A)=one (Bp N H W B) by rw[propext (OW h)]]
  congr 2
  apply List.map_congr_left
  intro i hi
  exact W9 k (Pg h i)
theorem Kg {A B:Bn} (h:∀ i,i < N→A i=B i):M N H W A=M N H W B:=by unfold M;rw[Hy h];exact W9 _ h
theorem Pe.card {A B:Bn} (h:Pe N A B):card N B=card N A+card N (fun i=>B i && !A i):=by
 apply R4
 ·intro i hi;have:=h i hi;cases hA:A i <;> cases hB:B i <;> simp_all
 ·intro i hi;simp;intro h1 _;exact h1
theorem Pe.eq {A B:Bn} (h:Pe N A B) (hc:Go.MdM.card N B≤Go.MdM.card N A):∀ i,i < N→A i=B i:=by
 have:=h.card
 have h0:=Jb (show Go.MdM.card N (λi=>B i && !A i)=0 by omega)
 intro i hi
 have:=h0 i hi;have:=h i hi
 cases hA:A i <;> cases hB:B i <;> simp_all
theorem Pe.ex {A B:Bn} (h:Pe N A B) (hc:Go.MdM.card N A < Go.MdM.card N B):∃ i,i < N∧B i=true∧A i=false:=by
 apply Classical.byContradiction
 intro hn
 have:Go.MdM.card N B=Go.MdM.card N A:=Hy (fun i hi=>by
  have:=h i hi
  cases hA:A i <;> cases hB:B i <;> simp_all)
 omega
theorem Acg:∀ (d:Nat) {A B:Bn},Pe N A B→card N B≤card N A+d→M N H W A≤M N H W B:=by
 intro d
 induction d with
 | zero=>intro A B h hc;rw[Kg (h.eq (by omega))];exact Nat.le_refl _
 | succ d ih =>
  intro A B h hc
  by_cases hl:card N A < card N B
  ·obtain⟨i,hi,hb,ha⟩:=h.ex hl
   have:=Gn hi hb
   have h2:Pe N A (del B i):=by
    intro j hj hA;unfold del
    have:=h j hj hA
    by_cases e:j=i
    ·subst e;rw[hA] at ha;cases ha
    ·simp[this,e]
   exact Nat.le_trans (ih h2 (by omega)) (sM hi hb)
  ·exact ih h (by omega)
theorem Pe.M {A B:Bn} (h:Pe N A B):M N H W A≤M N H W B:=Acg (Go.MdM.card N B) h (by omega)
theorem Ph {A B:Bn} {i:Nat} (h:Pe N A B) (hi:i < N) (hb:B i=true) (ha:A i=false) (he:Bp N H W B):M N H W A+1≤M N H W B:=by
 have h2:Pe N A (del B i):=by
  intro j hj hA;unfold del
  have:=h j hj hA
  by_cases e:j=i
  ·subst e;rw[hA] at ha;cases ha
  ·simp[this,e]
 exact Nat.le_trans (Nat.succ_le_succ h2.M) (gU hi hb he)
theorem VM {A B:Bn} (h:Pe N A B) (ha:Bp N H W A) (hb:Bp N H W B):Bp N H W (fun i=>B i && !A i):=by
 intro x
 have s:∀ f:Nat→Int,cn N B f x=cn N A f x+cn N (fun i=>B i && !A i) f x:=by
  intro f
  apply K3
  ·intro i hi;have:=h i hi;cases hA:A i <;> cases hB:B i <;> simp_all
  ·intro i hi;simp;intro h1 _;exact h1
 have:=s H;have:=s W;have:=ha x;have:=hb x
 omega
theorem Ait:∀ (k:Nat) (S:Bn),card N S≤k→∃ T,Pe N T S∧Bp N H W T∧M N H W T=M N H W S:=by
 intro k
 induction k with
 | zero =>
  intro S h
  have h0:=Jb (show card N S=0 by omega)
  refine⟨S,λ_ _ h=>h,?_,rfl⟩
  intro x
  have:∀ f,cn N S f x=0:=by
   intro f;unfold cn;rw[List.countP_eq_zero];intro i hi;rw[h0 i (by simpa using hi)];simp
  rw[this,this]
 | succ k ih =>
  intro S h
  by_cases he:Bp N H W S
  ·exact⟨S,λ_ _ h=>h,he,rfl⟩
  ·by_cases hz:card N S=0
   ·exact ih S (by omega)
   have hM:=VL (H:=H) (W:=W) S hz
   rw[WZ he,Nat.add_zero] at hM
   by_cases h0:mx ((els N S).map λi=>M N H W (del S i))=0
   ·rw[h0] at hM
    refine⟨λ_=>false,λi _ h=>(by cases h),λx=>by simp[cn],?_⟩
    rw[hM];exact Kc (by simp[card])
   ·obtain⟨i,hi,hm⟩:=List.mem_map.1 (U0 h0)
    obtain⟨hi,hs⟩:=Fh.1 hi
    have:=Gn hi hs
    obtain⟨T,hT,hE,e⟩:=ih (del S i) (by omega)
    refine⟨T,λj hj h=>?_,hE,by rw[e,hM,←hm]⟩
    have:=hT j hj h
    unfold del at this
    simp at this;exact this.1
end Go.MdM
namespace Go.MdM
section
variable (N:Nat) (H W:Nat→Int)
def BB (Q:Bn→Prop) (f:Nat):Bn→Nat→List Nat→Prop
 | R,last,[]=>W last=H f∧Q R
 | R,last,i::e=>i < N∧R i=true∧H i=W last∧BB Q f (del R i) i e
def bX:List Nat→List Nat→Prop
 | [],_::_=>True
 | a::x,b::y=>a < b∨(a=b∧bX x y)
 | _,[]=>False
noncomputable def Pi (Q:Bn→Prop) (f:Nat):Nat→Bn→Nat→Option (List Nat)
 | 0,_,_=>none
 | k+1,R,last=>@ite _ (W last=H f∧Q R) (Classical.propDecidable _) (some []) ((els N R).findSome? λi=>if H i=W last then (Pi Q f k (del R i) i).map (i :: ·) else none)
def BI:Bn→List (List Nat)→Prop
 | S,[]=>∀ i,i < N→S i=false
 | S,r::L=>∃ f e,r=f::e∧(f < N∧S f=true∧∀ j,j < f→S j=false)∧BB N H W (λ_=>True) f (del S f) f e∧BI (rem S r) L
def Qs (S:Bn):Bn→Prop:=λR=>Bp N H W R∧M N H W R+1=M N H W S
noncomputable def gr:Nat→Bn→List (List Nat)
 | 0,_=>[]
 | k + 1, S => match els N S with
  | []=>[]
  | f::_=>(f::(Pi N H W (Qs N H W S) f (card N S+1) (del S f) f).getD [])::gr k (rem S (f::(Pi N H W (Qs N H W S) f (card N S+1) (del S f) f).getD []))
def mD:List (List Nat)→List (List Nat)→Prop
 | a::x,b::y=>bX a b∨(a=b∧mD x y)
 | _,_=>False
end
variable {N:Nat} {H W:Nat→Int}
theorem Jv (R:Bn):rem R []=R:=by funext j;simp[rem]
theorem HV (R:Bn) (i:Nat) (e:List Nat):rem R (i::e)=rem (del R i) e:=by
 funext j;simp only[rem,del,List.contains_cons]
 cases R j <;> cases j == i <;> cases e.contains j <;> rfl
theorem LW (R:Bn) (a b:List Nat):rem R (a++b)=rem (rem R a) b:=by
 funext j;simp only[rem]
 cases h:R j <;> simp
theorem R6 {Q : Bn → Prop} {f : Nat} : ∀ (e : List Nat) (R : Bn) (last : Nat), BB N H W Q f R last e ↔ BB N H W (fun _ => True) f R last e ∧ Q (rem R e)
 | [],R,last=>by rw[Jv];simp[BB]
 | i :: e, R, last => by
  rw[HV]
  have:=R6 (Q:=Q) (f:=f) e (del R i) i
  simp only[BB,this,and_assoc]
theorem Jc {Q:Bn→Prop} {f:Nat}:∀ (e:List Nat) (R:Bn) (last:Nat),BB N H W Q f R last e→∀ i∈e,i < N∧R i=true
 | [],_,_,_,i,h=>by cases h
 | j :: e, R, last, hr, i, h => by
  obtain⟨h1,h2,_,h4⟩:=hr
  rcases List.mem_cons.1 h with rfl | h
  ·exact⟨h1,h2⟩
  ·have:=Jc e _ _ h4 i h
   unfold del at this
   simp at this;exact⟨this.1,this.2.1⟩
theorem Kb {Q:Bn→Prop} {f:Nat}:∀ (e:List Nat) (R:Bn) (last:Nat),BB N H W Q f R last e→e.Nodup
 | [],_,_,_=>List.nodup_nil
 | j :: e, R, last, hr => by
  obtain⟨h1,h2,_,h4⟩:=hr
  rw[List.nodup_cons]
  refine⟨λh=>?_,Kb e _ _ h4⟩
  have:=Jc e _ _ h4 j h
  simp[del] at this
theorem VU {Q Q':Bn→Prop} {f:Nat} {D:Bn}:∀ (e:List Nat) (R R':Bn) (last:Nat),(∀ i,i < N→R' i=(R i || D i))→(∀ i,i < N→¬ (R i=true∧D i=true)) →
 (∀ X X':Bn,Pe N X R→(∀ i,i < N→X' i=(X i || D i))→(∀ i,i < N→¬ (X i=true∧D i=true))→Q X→Q' X')→BB N H W Q f R last e→BB N H W Q' f R' last e
 | [],R,R',last,h1,h2,h3,hr=>⟨hr.1,h3 R R' (λ_ _ h=>h) h1 h2 hr.2⟩
 | i :: e, R, R', last, h1, h2, h3, hr => by
  obtain⟨g1,g2,g3,g4⟩:=hr
  refine⟨g1,by rw[h1 i g1,g2];rfl,g3,VU (D:=D) e (del R i) (del R' i) i ?_ ?_ ?_ g4⟩
  ·intro j hj;unfold del;rw[h1 j hj]
   have:=h2 i g1
   by_cases e:j=i
   ·subst e;rw[g2] at this;simp at this;simp[this]
   ·simp only[beq_eq_false_iff_ne.2 e,Bool.not_false,Bool.and_true]
  ·intro j hj hc;unfold del at hc;simp at hc;exact h2 j hj ⟨hc.1.1,hc.2⟩
  ·intro X X' hs;exact h3 X X' (λj hj h=>by have:=hs j hj h;unfold del at this;simp at this;exact this.1)
theorem gV {f:Nat}:∀ (e:List Nat) (R:Bn) (last:Nat),BB N H W (Bp N H W) f R last e→∀ x,cn N R H x+(if H f=x then 1 else 0)=cn N R W x+(if W last=x then 1 else 0)
 | [],R,last,hr,x=>by rw[hr.1,hr.2 x]
 | i :: e, R, last, hr, x => by
  obtain⟨g1,g2,g3,g4⟩:=hr
  have:=gV e _ _ g4 x
  rw[I9 g1 g2 H x,I9 g1 g2 W x,g3]
  omega
theorem nW {f:Nat}:∀ (k:Nat) (R:Bn) (last:Nat),card N R≤k→(∀ x,cn N R H x+(if H f=x then 1 else 0)=cn N R W x+(if W last=x then 1 else 0))→∃ e,BB N H W (Bp N H W) f R last e:=by
 intro k
 induction k with
 | zero =>
  intro R last hk hb
  have h0:=Jb (show card N R=0 by omega)
  have hc:∀ (g:Nat→Int) x,cn N R g x=0:=by
   intro g x;unfold cn;rw[List.countP_eq_zero];intro i hi;rw[h0 i (by simpa using hi)];simp
  refine⟨[],?_,λx=>by rw[hc,hc]⟩
  have:=hb (W last)
  rw[hc,hc] at this
  by_cases h:H f=W last
  ·exact h.symm
  ·simp[h] at this
 | succ k ih =>
  intro R last hk hb
  by_cases h:W last=H f
  ·refine⟨[],h,λx=>?_⟩
   have:=hb x
   rw[h] at this;omega
  ·have:=hb (W last)
   simp only[if_true,Ne.symm h,if_false] at this
   have hp:0 < cn N R H (W last):=by omega
   unfold cn at hp
   rw[List.countP_pos_iff] at hp
   obtain⟨i,hi,hp⟩:=hp
   have hi:i < N:=by simpa using hi
   simp at hp
   obtain⟨hr,hh⟩:=hp
   have:=Gn hi hr
   obtain ⟨e, he⟩ := ih (del R i) i (by omega) (by
    intro x
    have:=hb x
    rw[I9 hi hr H x,I9 hi hr W x,hh] at this
    omega)
   exact⟨i::e,hi,hr,hh,he⟩
theorem Xa {A B S:Bn} (h:∀ i,i < N→S i=(A i || B i)) (hd:∀ i,i < N→¬ (A i=true∧B i=true)) (ha:Bp N H W A) (hb:Bp N H W B):Bp N H W S:=by
 intro x;rw[K3 H x h hd,K3 W x h hd,ha x,hb x]
theorem Ug:∀ (k:Nat) (S:Bn) (f:Nat),card N S≤k→Bp N H W S→f < N→S f=true→∃ e,BB N H W (Qs N H W S) f (del S f) f e:=by
 intro k
 induction k with
 | zero=>intro S f hk he hf hs;have:=M9 hf hs;omega
 | succ k ih =>
  intro S f hk he hf hs
  have hM:=VL (H:=H) (W:=W) S (Nat.ne_of_gt (M9 hf hs))
  rw[WY he] at hM
  have hi:∃ i,i < N∧S i=true∧M N H W (del S i)+1=M N H W S:=by
   by_cases h0:mx ((els N S).map λi=>M N H W (del S i))=0
   ·refine⟨f,hf,hs,?_⟩
    have:=ZC (List.mem_map.2 ⟨f,Fh.2 ⟨hf,hs⟩,rfl⟩:M N H W (del S f)∈(els N S).map λi=>M N H W (del S i))
    omega
   ·obtain⟨i,hi,hm⟩:=List.mem_map.1 (U0 h0)
    obtain⟨hi,hs⟩:=Fh.1 hi
    exact⟨i,hi,hs,by rw[hM,←hm]⟩
  obtain⟨i,hi,hsi,hMi⟩:=hi
  obtain⟨T,hT,hTe,hTM⟩:=Ait (H:=H) (W:=W) (card N (del S i)) (del S i) (Nat.le_refl _)
  have hTi:T i=false:=by
   cases h:T i
   ·rfl
   ·have:=hT i hi h;simp[del] at this
  have hTS:Pe N T S:=by intro j hj h;have:=hT j hj h;simp[del] at this;exact this.1
  have huni:∀ j,j < N→S j=(T j || (S j && !T j)):=by
   intro j hj;have:=hTS j hj;cases h1:T j <;> cases h2:S j <;> simp_all
  have hdis:∀ j,j < N→¬ (T j=true∧(S j && !T j)=true):=by intro j _ h;simp at h;simp[h.1] at h
  have hUe:Bp N H W (λj=>S j && !T j):=VM hTS hTe he
  by_cases hf2:T f=true
  ·have hc:card N S=card N T+card N (λj=>S j && !T j):=hTS.card
   have:0 < card N (λj=>S j && !T j):=M9 hi (by simp[hsi,hTi])
   obtain⟨e,hr⟩:=ih T f (by omega) hTe hf hf2
   refine⟨e,VU (D:=λj=>S j && !T j) e (del T f) (del S f) f ?_ ?_ ?_ hr⟩
   ·intro j hj;unfold del;have:=huni j hj
    by_cases e:j=f
    ·subst e;simp[hf2]
    ·simp only[beq_eq_false_iff_ne.2 e,Bool.not_false,Bool.and_true];exact this
   ·intro j hj h;unfold del at h;simp at h;simp[h.1.1] at h
   ·intro X X' hX hu hd hq
    have hX':Pe N X X':=by intro j hj h;rw[hu j hj,h];rfl
    have e':=Xa hu hd hq.1 hUe
    have hxi:X i=false:=by
     cases h:X i
     ·rfl
     ·have:=hX i hi h;simp[del,hTi] at this
    have m1:=Ph hX' hi (by rw[hu i hi];simp[hsi,hTi]) hxi e'
    have m2:=hq.2
    have hfx:X' f=false:=by
     rw[hu f hf]
     cases h:X f
     ·simp[hf2]
     ·have:=hX f hf h;simp[del] at this
    have m3 := Ph (A := X') (B := S) (by
     intro j hj h;rw[hu j hj] at h
     cases h1:X j
     ·rw[h1] at h;simp at h;exact h.1
     ·have:=hX j hj h1;simp[del] at this;exact hTS j hj this.1) hf hs hfx he
    exact⟨e',by omega⟩
  ·have hf2:T f=false:=by simpa using hf2
   have hUf:(λj=>S j && !T j) f=true:=by simp[hs,hf2]
   obtain ⟨e, hr⟩ := nW (H := H) (W := W) (f := f) (card N (del (fun j => S j && !T j) f)) (del (fun j => S j && !T j) f) f (Nat.le_refl _) (by
    intro x
    have:=hUe x
    rw[I9 hf hUf H x,I9 hf hUf W x] at this
    exact this)
   refine⟨e,VU (D:=T) e (del (λj=>S j && !T j) f) (del S f) f ?_ ?_ ?_ hr⟩
   ·intro j hj;unfold del
    have:=hTS j hj
    by_cases e:j=f
    ·subst e;simp[hf2]
    ·simp only[beq_eq_false_iff_ne.2 e,Bool.not_false,Bool.and_true]
     cases h1:T j
     ·simp
     ·rw[this h1];rfl
   ·intro j hj h;unfold del at h;simp at h;simp[h.2] at h
   ·intro X X' hX hu hd hq
    have e':=Xa hu hd hq hTe
    have hTX:Pe N T X':=by intro j hj h;rw[hu j hj,h];simp
    have m1:=hTX.M (H:=H) (W:=W)
    have hfx:X' f=false:=by
     rw[hu f hf,hf2]
     cases h:X f
     ·rfl
     ·have:=hX f hf h;simp[del] at this
    have m3 := Ph (A := X') (B := S) (by
     intro j hj h;rw[hu j hj] at h
     cases h1:X j
     ·rw[h1] at h;exact hTS j hj (by simpa using h)
     ·have:=hX j hj h1;simp[del] at this;exact this.1.1) hf hs hfx he
    exact⟨e',by omega⟩
end Go.MdM
namespace Go.MdM
variable {N:Nat} {H W:Nat→Int}
theorem Qz:∀ (a:List Nat),¬ bX a a
 | [],h=>h
 | _::a,h=>by rcases h with h | h;exact Nat.lt_irrefl _ h;exact Qz a h.2
theorem Xb:∀ (a b:List Nat),bX a b→¬ bX b a
 | [],[],h,_=>h
 | [],_::_,_,h=>h
 | _::_,[],h,_=>h
 | x :: a, y :: b, h, g => by
  rcases h with h | h <;> rcases g with g | g
  ·omega
  ·omega
  ·omega
  ·exact Xb a b h.2 g.2
theorem Xc:∀ (a b:List (List Nat)),mD a b→¬ mD b a
 | [],_,h,_=>h
 | _::_,[],h,_=>h
 | x :: a, y :: b, h, g => by
  rcases h with h | h <;> rcases g with g | g
  ·exact Xb _ _ h g
  ·rw[g.1] at h;exact Qz _ h
  ·rw[h.1] at g;exact Qz _ g
  ·exact Xc a b h.2 g.2
theorem R7 (S:Bn):(els N S).Pairwise (· < ·):=by unfold els;exact List.pairwise_lt_range.filter _
theorem gZ {Q:Bn→Prop} {f:Nat}:∀ (k:Nat) (R:Bn) (last:Nat),card N R < k →
 (∀ e,Pi N H W Q f k R last=some e→BB N H W Q f R last e∧∀ e',BB N H W Q f R last e'→e=e'∨bX e e')∧(Pi N H W Q f k R last=none→∀ e',¬ BB N H W Q f R last e'):=by
 intro k
 induction k with
 | zero=>intro R last h;omega
 | succ k ih =>
  intro R last hk
  unfold Pi
  by_cases hc:W last=H f∧Q R
  ·rw[if_pos hc]
   refine⟨λe he=>?_,λh=>by cases h⟩
   injection he with he;subst he
   refine⟨hc,λe' _=>?_⟩
   cases e' with
   | nil=>exact .inl rfl
   | cons=>exact .inr trivial
  ·rw[if_neg hc]
   have step:∀ e',BB N H W Q f R last e'→∃ i e2,e'=i::e2∧i∈els N R∧H i=W last∧BB N H W Q f (del R i) i e2:=by
    intro e' he'
    cases e' with
    | nil=>exact absurd he' hc
    | cons i e2=>exact⟨i,e2,rfl,Fh.2 ⟨he'.1,he'.2.1⟩,he'.2.2⟩
   have low:∀ i,i∈els N R→card N (del R i) < k:=by
    intro i hi
    obtain⟨h1,h2⟩:=Fh.1 hi
    have:=Gn h1 h2
    omega
   constructor
   ·intro e he
    rw[List.findSome?_eq_some_iff] at he
    obtain⟨l1,i,l2,hl,hi,hn⟩:=he
    have hmem:i∈els N R:=by rw[hl];simp
    by_cases hW:H i=W last
    ·rw[if_pos hW] at hi
     cases hd:Pi N H W Q f k (del R i) i with
     | none=>rw[hd] at hi;cases hi
     | some e1 =>
      rw[hd] at hi;injection hi with hi;subst hi
      obtain⟨a1,a2⟩:=(ih (del R i) i (low i hmem)).1 e1 hd
      have hm:=Fh.1 hmem
      refine⟨⟨hm.1,hm.2,hW,a1⟩,?_⟩
      intro e' he'
      obtain⟨j,e2,rfl,hj,hWj,hr⟩:=step e' he'
      have hp:=R7 (N:=N) R
      rw[hl,List.pairwise_append,List.pairwise_cons] at hp
      rw[hl] at hj
      rcases List.mem_append.1 hj with hj | hj
      ·have:=hn j hj
       rw[if_pos hWj,Option.map_eq_none_iff] at this
       exact absurd hr ((ih (del R j) j (low j (by rw[hl];simp[hj]))).2 this e2)
      ·rcases List.mem_cons.1 hj with rfl | hj
       ·rcases a2 e2 hr with rfl | h
        ·exact .inl rfl
        ·exact .inr (.inr ⟨rfl,h⟩)
       ·exact .inr (.inl (hp.2.1.1 j hj))
    ·rw[if_neg hW] at hi;cases hi
   ·intro hn e' he'
    rw[List.findSome?_eq_none_iff] at hn
    obtain⟨j,e2,rfl,hj,hWj,hr⟩:=step e' he'
    have:=hn j hj
    rw[if_pos hWj,Option.map_eq_none_iff] at this
    exact(ih (del R j) j (low j hj)).2 this e2 hr
theorem Xd:∀ (L:List (List Nat)) (S:Bn),BI N H W S L→Bp N H W S∧L.length≤M N H W S
 | [], S, h => by
  have hc:∀ (g:Nat→Int) x,cn N S g x=0:=by
   intro g x;unfold cn;rw[List.countP_eq_zero];intro i hi;rw[h i (by simpa using hi)];simp
  exact⟨λx=>by rw[hc,hc],Nat.zero_le _⟩
 | r :: L, S, h => by
  obtain⟨f,e,rfl,⟨h1,h2,h3⟩,h4,h5⟩:=h
  have ih:=Xd L _ h5
  rw[HV] at ih
  have hr:BB N H W (Bp N H W) f (del S f) f e:=R6 e _ _ |>.2 ⟨h4,ih.1⟩
  have hE:Bp N H W S:=by
   intro x
   have:=gV e _ _ hr x
   rw[I9 h1 h2 H x,I9 h1 h2 W x];exact this
  refine⟨hE,?_⟩
  have:Pe N (rem (del S f) e) S:=by intro j hj h;simp[rem,del] at h;exact h.1.1
  have:=Ph this h1 h2 (by simp[rem,del]) hE
  have:=ih.2
  simp only[List.length_cons];omega
theorem Uh {S:Bn} {f:Nat} {l:List Nat} (h:els N S=f::l):f < N∧S f=true∧∀ j,j < f→S j=false:=by
 have hm:=Fh.1 (show f∈els N S by rw[h];simp)
 refine⟨hm.1,hm.2,λj hj=>?_⟩
 cases hS:S j
 ·rfl
 ·have:j∈els N S:=Fh.2 ⟨by omega,hS⟩
  have hp:=R7 (N:=N) S
  rw[h] at this hp
  rw[List.pairwise_cons] at hp
  rcases List.mem_cons.1 this with rfl | h2
  ·omega
  ·have:=hp.1 j h2;omega
theorem AgW:∀ (k:Nat) (S:Bn),card N S≤k→Bp N H W S→BI N H W S (gr N H W k S)∧(gr N H W k S).length=M N H W S ∧
 ∀ L,BI N H W S L→L=gr N H W k S∨L.length < M N H W S∨(L.length=M N H W S∧mD (gr N H W k S) L):=by
 intro k
 induction k with
 | zero =>
  intro S hk hE
  have h0:=Jb (show card N S=0 by omega)
  refine⟨h0,by rw[Kc (by omega)];rfl,?_⟩
  intro L hL
  cases L with
  | nil=>exact .inl rfl
  | cons r L=>obtain⟨f,e,rfl,⟨h1,h2,h3⟩,_⟩:=hL;rw[h0 f h1] at h2;cases h2
 | succ k ih =>
  intro S hk hE
  unfold gr
  cases he:els N S with
  | nil =>
   have hc:card N S=0:=by rw[←Ha,he];rfl
   have h0:=Jb hc
   refine⟨h0,by rw[Kc hc];rfl,?_⟩
   intro L hL
   cases L with
   | nil=>exact .inl rfl
   | cons r L=>obtain⟨f,e,rfl,⟨h1,h2,h3⟩,_⟩:=hL;rw[h0 f h1] at h2;cases h2
  | cons f l =>
   obtain⟨f1,f2,f3⟩:=Uh he
   have hcd:=Gn f1 f2
   obtain⟨d1,d2⟩:=gZ (N:=N) (H:=H) (W:=W) (Q:=Qs N H W S) (f:=f) (card N S+1) (del S f) f (by omega)
   dsimp only
   cases hd:Pi N H W (Qs N H W S) f (card N S+1) (del S f) f with
   | none =>
    obtain⟨e,he⟩:=Ug (H:=H) (W:=W) (card N S) S f (Nat.le_refl _) hE f1 f2
    exact absurd he (d2 hd e)
   | some e =>
    obtain⟨g1,g2⟩:=d1 e hd
    obtain⟨g3,g4⟩:=(R6 e _ _).1 g1
    obtain⟨g5,g6⟩:=g4
    simp only[Option.getD_some]
    rw[←HV] at g5 g6
    have hsub:Pe N (rem S (f::e)) (del S f):=by intro j hj h;simp[rem,del] at h ⊢;exact⟨h.1,h.2.1⟩
    have hcl:card N (rem S (f::e))≤k:=by
     have:card N (del S f)=card N (rem S (f::e))+_:=hsub.card
     omega
    obtain⟨i1,i2,i3⟩:=ih (rem S (f::e)) hcl g5
    refine⟨⟨f,e,rfl,⟨f1,f2,f3⟩,g3,i1⟩,by simp only[List.length_cons,i2];exact g6,?_⟩
    intro L hL
    have hle:=(Xd L S hL).2
    cases L with
    | nil=>have:=hL f f1;rw[f2] at this;cases this
    | cons r L =>
     by_cases hlen:(r::L).length < M N H W S
     ·exact .inr (.inl hlen)
     have hlen:(r::L).length=M N H W S:=by omega
     obtain⟨f',e',rfl,⟨a1,a2,a3⟩,a4,a5⟩:=hL
     have hff:f'=f:=by
      rcases Nat.lt_trichotomy f f' with h | h | h
      ·rw[a3 f h] at f2;cases f2
      ·exact h.symm
      ·rw[f3 f' h] at a2;cases a2
     subst hff
     obtain⟨b1,b2⟩:=Xd L _ a5
     have hq:BB N H W (Qs N H W S) f' (del S f') f' e':=by
      refine(R6 e' _ _).2 ⟨a4,?_⟩
      rw[←HV]
      refine⟨b1,?_⟩
      have:M N H W (rem S (f'::e'))+1≤M N H W S:=Ph (by intro j hj h;simp[rem] at h;exact h.1) f1 f2 (by simp[rem]) hE
      simp only[List.length_cons] at hlen
      omega
     rcases g2 e' hq with rfl | h
     ·simp only[List.length_cons] at hlen
      rcases i3 L a5 with h | h | h
      ·subst h;exact .inl rfl
      ·omega
      ·exact .inr (.inr ⟨hlen,.inr ⟨rfl,h.2⟩⟩)
     ·exact .inr (.inr ⟨hlen,.inl (.inr ⟨rfl,h⟩)⟩)
end Go.MdM
namespace Go.MdM
section
def Oy (s:Nat→Nat):Nat→List Nat→Nat→List Nat
 | 0,ring,_=>ring
 | k+1,ring,z=>bif ring.contains z then ring else Oy s k (ring++[z]) (s z)
def nl (s:Nat→Nat) (k:Nat):List Nat→List Nat→List (List Nat)
 | [],_=>[]
 | p::ps,met=>bif met.contains p then nl s k ps met else Oy s k [] p::nl s k ps (met++Oy s k [] p)
def BO (N:Nat) (H W:Nat→Int) (S:Bn) (s:Nat→Nat):Prop:=
 (∀ i,i < N→S i=true→s i < N∧S (s i)=true∧H (s i)=W i)∧∀ i j,i < N→j < N→S i=true→S j=true→s i=s j→i=j
def Sg (s:Nat→Nat) (f:Nat):Nat→List Nat→Prop
 | last,[]=>s last=f
 | last,i::e=>s last=i∧Sg s f i e
end
variable {N:Nat} {H W:Nat→Int}
theorem Gt (l:List Nat) (x:Nat):l.contains x=true↔x∈l:=by simp
theorem G5 (l:List Nat) (x:Nat):l.contains x=false↔x ∉ l:=by simp
theorem Gu {S:Bn} {l:List Nat} {i:Nat}:rem S l i=true↔S i=true∧i ∉ l:=by simp[rem]
theorem ZE {S0:Bn} {s:Nat→Nat} (hv:BO N H W S0 s) {met:List Nat} (hmet:∀ i,i < N→S0 i=true→(s i∈met↔i∈met)) {p:Nat} :
 ∀ (k : Nat) (ring : List Nat) (last : Nat), card N (rem S0 (met ++ ring)) < k → p ∈ ring → last ∈ ring → (∀ x ∈ ring, x < N ∧ S0 x = true ∧ x ∉ met) →
  (∀ x∈ring,x≠p→∃ y∈ring,s y=x∧y≠last)→(∀ y∈ring,y≠last→s y∈ring) →
  ∃ e,Oy s k ring (s last)=ring++e∧BB N H W (λ_=>True) p (rem S0 (met++ring)) last e∧Sg s p last e∧(∀ y∈ring++e,s y∈ring++e):=by
 intro k
 induction k with
 | zero=>intro ring last h;omega
 | succ k ih =>
  intro ring last hk hp hl hr hpre hpost
  unfold Oy
  obtain⟨l1,l2,l3⟩:=hr last hl
  obtain⟨v1,v2,v3⟩:=hv.1 last l1 l2
  by_cases hc:s last∈ring
  ·have hsp : s last = p := by
    apply Classical.byContradiction
    intro hne
    obtain⟨y,hy,h1,h2⟩:=hpre _ hc hne
    exact h2 (hv.2 y last (hr y hy).1 l1 (hr y hy).2.1 l2 h1)
   refine⟨[],?_,⟨by rw[←v3,hsp],trivial⟩,hsp,?_⟩
   ·rw[(Gt _ _).2 hc];simp
   ·intro y hy
    rw[List.append_nil] at hy ⊢
    by_cases h:y=last
    ·rw[h];exact hc
    ·exact hpost y hy h
  ·have hm:s last ∉ met:=λh=>l3 ((hmet last l1 l2).1 h)
   have hR:rem S0 (met++ring) (s last)=true:=Gu.2 ⟨v2,by simp[hm,hc]⟩
   have hd:=Gn v1 hR
   have hrem:rem S0 (met++(ring++[s last]))=del (rem S0 (met++ring)) (s last):=by
    rw[←List.append_assoc,LW,HV,Jv]
   have hll:∀ y∈ring,y≠s last:=λy hy h=>hc (h ▸ hy)
   obtain ⟨e, e1, e2, e3, e4⟩ := ih (ring ++ [s last]) (s last) (by rw [hrem]; omega) (by simp [hp]) (by simp)
    (by
      intro x hx
      rcases List.mem_append.1 hx with hx | hx
      ·exact hr x hx
      ·rw[List.mem_singleton.1 hx];exact⟨v1,v2,hm⟩)
    (by
      intro x hx hxp
      rcases List.mem_append.1 hx with hx | hx
      ·obtain⟨y,hy,h1,h2⟩:=hpre x hx hxp
       exact⟨y,by simp[hy],h1,hll y hy⟩
      ·rw[List.mem_singleton.1 hx]
       exact⟨last,by simp[hl],rfl,hll last hl⟩)
    (by
      intro y hy hne
      rcases List.mem_append.1 hy with hy | hy
      ·by_cases h:y=last
       ·rw[h];simp
       ·have:=hpost y hy h;simp[this]
      ·exact absurd (List.mem_singleton.1 hy) hne)
   refine⟨s last::e,?_,⟨v1,hR,v3,by rw[←hrem];exact e2⟩,⟨rfl,e3⟩,?_⟩
   ·rw[(G5 _ _).2 hc]
    show Oy s k (ring++[s last]) (s (s last))=_
    rw[e1];simp
   ·intro y hy
    have:=e4 y (by simpa using hy)
    simpa using this
theorem OH:∀ (l r:List Nat),l.Nodup→(∀ x∈l,x∈r)→l.length≤r.length
 | [],_,_,_=>Nat.zero_le _
 | a :: l, r, hn, h => by
  rw[List.nodup_cons] at hn
  have ha:=h a (by simp)
  have:=OH l (r.erase a) hn.2 (λx hx=>(List.mem_erase_of_ne (λe=>by subst e;exact hn.1 hx)).2 (h x (by simp[hx])))
  rw[List.length_erase_of_mem ha] at this
  have:=List.length_pos_of_mem ha
  simp only[List.length_cons];omega
theorem PM {S0:Bn} {s:Nat→Nat} (hv:BO N H W S0 s):∀ (r:List Nat),r.Nodup→(∀ x∈r,x < N∧S0 x=true)→(∀ x∈r,s x∈r)→∀ i,i < N→S0 i=true→s i∈r→i∈r:=by
 intro r hn hr hc i hi hs hm
 apply Classical.byContradiction
 intro hni
 have hmap:(r.map s).Nodup:=by
  unfold List.Nodup
  rw[List.pairwise_map]
  exact List.Pairwise.imp_of_mem (fun {a b} ha hb hne h=>hne (hv.2 a b (hr a ha).1 (hr b hb).1 (hr a ha).2 (hr b hb).2 h)) hn
 have hnd:(s i::r.map s).Nodup:=by
  rw[List.nodup_cons]
  refine⟨λh=>?_,hmap⟩
  obtain⟨j,hj,e⟩:=List.mem_map.1 h
  exact hni ((hv.2 j i (hr j hj).1 hi (hr j hj).2 hs e) ▸ hj)
 have hlen := (OH _ r hnd (by
  intro x hx
  rcases List.mem_cons.1 hx with rfl | hx
  ·exact hm
  ·obtain⟨j,hj,rfl⟩:=List.mem_map.1 hx;exact hc j hj))
 simp at hlen
 omega
theorem iB {s:Nat→Nat} {p:Nat} {Q:Bn→Prop}:∀ (e:List Nat) (k:Nat) (ring:List Nat) (R:Bn) (last:Nat),e.length < k→p∈ring→Sg s p last e→BB N H W Q p R last e→(∀ x∈ring,R x=false) →
 Oy s k ring (s last)=ring++e
 | [], k + 1, ring, R, last, hk, hp, hs, hr, hd => by
  unfold Oy
  rw[show s last=p from hs,(Gt _ _).2 hp];simp
 | i :: e, k + 1, ring, R, last, hk, hp, hs, hr, hd => by
  unfold Oy
  obtain⟨h1,h2,h3,h4⟩:=hr
  have hi:i ∉ ring:=λh=>by rw[hd i h] at h2;cases h2
  rw[hs.1,(G5 _ _).2 hi]
  show Oy s k (ring++[i]) (s i)=_
  rw [iB e k (ring ++ [i]) (del R i) i (by simp at hk; omega) (by simp [hp]) hs.2 h4 (by
   intro x hx
   rcases List.mem_append.1 hx with hx | hx
   ·simp[del,hd x hx]
   ·simp[del,List.mem_singleton.1 hx])]
  simp
 | _,0,_,_,_,hk,_,_,_,_=>by omega
theorem iC {S0:Bn} {s:Nat→Nat} (hv:BO N H W S0 s) {k:Nat} (hk:N < k):∀ (ps met:List Nat),ps.Pairwise (· < ·)→(∀ p∈ps,p < N∧S0 p=true) →
 (∀ i,i < N→S0 i=true→(s i∈met↔i∈met))→(∀ i,i < N→rem S0 met i=true→i∈ps)→BI N H W (rem S0 met) (nl s k ps met)∧∀ r∈nl s k ps met,∃ f e,r=f::e∧Sg s f f e
 | [], met, hs, hp, hm, ha => by
  refine⟨λi hi=>?_,λr hr=>by cases hr⟩
  cases h:rem S0 met i
  ·rfl
  ·have:=ha i hi h;cases this
 | p :: ps, met, hs, hp, hm, ha => by
  rw[List.pairwise_cons] at hs
  unfold nl
  by_cases hc:p∈met
  ·rw[(Gt _ _).2 hc]
   exact iC hv hk ps met hs.2 (fun q hq=>hp q (by simp[hq])) hm (fun i hi h=>by
    rcases List.mem_cons.1 (ha i hi h) with rfl | h2
    ·exact absurd hc (Gu.1 h).2
    ·exact h2)
  ·rw[(G5 _ _).2 hc]
   obtain⟨p1,p2⟩:=hp p (by simp)
   have hle:card N (rem S0 (met++[p]))≤N:=by
    unfold card
    have:=List.countP_le_length (p:=rem S0 (met++[p])) (l:=List.range N)
    simpa using this
   obtain⟨k',rfl⟩:∃ k',k=k'+1:=⟨k - 1,by omega⟩
   have hcc:card N (rem S0 (met++[p])) < k':=by
    have hx:rem S0 met p=true:=Gu.2 ⟨p2,hc⟩
    have:=Gn p1 hx
    have h2:card N (rem S0 met)≤N:=by
     unfold card
     have:=List.countP_le_length (p:=rem S0 met) (l:=List.range N)
     simpa using this
    rw[LW,HV,Jv]
    omega
   obtain ⟨e, e1, e2, e3, e4⟩ := ZE hv hm (p := p) k' [p] p hcc (by simp) (by simp) (by intro x hx; rw [List.mem_singleton.1 hx]; exact ⟨p1, p2, hc⟩)
    (by intro x hx hne;exact absurd (List.mem_singleton.1 hx) hne) (by intro y hy hne;exact absurd (List.mem_singleton.1 hy) hne)
   have horb:Oy s (k'+1) [] p=p::e:=by
    unfold Oy
    simpa using e1
   rw[LW,HV,Jv] at e2
   have hpe:∀ x∈p::e,x < N∧S0 x=true:=by
    intro x hx
    rcases List.mem_cons.1 hx with rfl | hx
    ·exact⟨p1,p2⟩
    ·have:=Jc e _ _ e2 x hx
     refine⟨this.1,?_⟩
     have:=this.2
     simp[rem,del] at this;exact this.1.1
   have hnd:(p::e).Nodup:=by
    rw[List.nodup_cons]
    refine⟨λh=>?_,Kb e _ _ e2⟩
    have:=(Jc e _ _ e2 p h).2
    simp[del] at this
   have hcl:=PM hv (p::e) hnd hpe (by simpa using e4)
   have ih := iC hv hk ps (met ++ p :: e) hs.2 (fun q hq => hp q (by simp [hq]))
    (by
      intro i hi hsi
      have h1:=hm i hi hsi
      have h2:=hcl i hi hsi
      have h3:i∈p::e→s i∈p::e:=λh=>by simpa using e4 i (by simpa using h)
      simp only[List.mem_append]
      constructor
      ·rintro(h | h)
       ·exact .inl (h1.1 h)
       ·exact .inr (h2 h)
      ·rintro(h | h)
       ·exact .inl (h1.2 h)
       ·exact .inr (h3 h))
    (by
      intro i hi h
      obtain⟨g1,g2⟩:=Gu.1 h
      simp only[List.mem_append,not_or] at g2
      rcases List.mem_cons.1 (ha i hi (Gu.2 ⟨g1,g2.1⟩)) with rfl | h2
      ·exact absurd (by simp) g2.2
      ·exact h2)
   rw[horb]
   show BI N H W (rem S0 met) ((p::e)::nl s (k'+1) ps (met++p::e))∧_
   refine⟨⟨p,e,rfl,⟨p1,Gu.2 ⟨p2,hc⟩,?_⟩,e2,by rw[←LW];exact ih.1⟩,?_⟩
   ·intro j hj
    cases h:rem S0 met j
    ·rfl
    ·rcases List.mem_cons.1 (ha j (by omega) h) with rfl | h2
     ·omega
     ·have:=hs.1 j h2;omega
   ·intro r hr
    rcases List.mem_cons.1 hr with rfl | hr
    ·exact⟨p,e,rfl,e3⟩
    ·exact ih.2 r hr
theorem iD {S0:Bn} {s:Nat→Nat} {k:Nat} (hk:N < k):∀ (ps met:List Nat) (L:List (List Nat)),ps.Pairwise (· < ·)→(∀ p∈ps,p < N∧S0 p=true) →
 (∀ i,i < N→rem S0 met i=true→i∈ps)→BI N H W (rem S0 met) L→(∀ r∈L,∃ f e,r=f::e∧Sg s f f e)→nl s k ps met=L
 | [], met, L, hs, hp, ha, hD, hg => by
  cases L with
  | nil=>rfl
  | cons r L =>
   obtain⟨f,e,rfl,⟨h1,h2,h3⟩,_⟩:=hD
   have:=ha f h1 h2;cases this
 | p :: ps, met, L, hs, hp, ha, hD, hg => by
  rw[List.pairwise_cons] at hs
  unfold nl
  by_cases hc:p∈met
  ·rw[(Gt _ _).2 hc]
   exact iD hk ps met L hs.2 (fun q hq=>hp q (by simp[hq])) (fun i hi h=>by
    rcases List.mem_cons.1 (ha i hi h) with rfl | h2
    ·exact absurd hc (Gu.1 h).2
    ·exact h2) hD hg
  ·rw[(G5 _ _).2 hc]
   obtain⟨p1,p2⟩:=hp p (by simp)
   cases L with
   | nil=>have:=hD p p1;rw[Gu.2 ⟨p2,hc⟩] at this;cases this
   | cons r L =>
    obtain⟨f,e,rfl,⟨h1,h2,h3⟩,h4,h5⟩:=hD
    have hfp:f=p:=by
     rcases Nat.lt_trichotomy f p with h | h | h
     ·rcases List.mem_cons.1 (ha f h1 h2) with rfl | h6
      ·rfl
      ·have:=hs.1 f h6;omega
     ·exact h
     ·have:=h3 p h;rw[Gu.2 ⟨p2,hc⟩] at this;cases this
    subst hfp
    obtain⟨f',e',he,hsg⟩:=hg (f::e) (by simp)
    injection he with he1 he2;subst he1;subst he2
    have hlen:e.length < N:=by
     have hnd:(f::e).Nodup:=by
      rw[List.nodup_cons]
      refine⟨λh=>?_,Kb e _ _ h4⟩
      have:=(Jc e _ _ h4 f h).2
      simp[del] at this
     have := (OH _ (List.range N) hnd (by
      intro x hx
      rcases List.mem_cons.1 hx with rfl | hx
      ·simpa using h1
      ·simpa using (Jc e _ _ h4 x hx).1))
     simp at this;omega
    obtain⟨k',rfl⟩:∃ k',k=k'+1:=⟨k - 1,by omega⟩
    have horb:Oy s (k'+1) [] f=f::e:=by
     unfold Oy
     have:=iB e k' [f] _ f (by omega) (by simp) hsg h4 (by intro x hx;rw[List.mem_singleton.1 hx];simp[del])
     simpa using this
    rw[horb]
    show (f::e)::nl s (k'+1) ps (met++f::e)=_
    congr 1
    refine iD hk ps (met++f::e) L hs.2 (λq hq=>hp q (by simp[hq])) ?_ (by rw[LW];exact h5) (λr hr=>hg r (by simp[hr]))
    intro i hi h
    obtain⟨g1,g2⟩:=Gu.1 h
    simp only[List.mem_append,not_or] at g2
    rcases List.mem_cons.1 (ha i hi (Gu.2 ⟨g1,g2.1⟩)) with rfl | h2
    ·exact absurd (by simp) g2.2
    ·exact h2
end Go.MdM
namespace Go.MdM
def nx (f:Nat):Nat→List Nat→Nat→Nat
 | _,[],_=>f
 | last,i::e,j=>bif j == last then i else nx f i e j
variable {N:Nat} {H W:Nat→Int}
theorem OX {s t:Nat→Nat} {f:Nat}:∀ (e:List Nat) (last:Nat),(∀ x∈last::e,s x=t x)→Sg s f last e→Sg t f last e
 | [],last,h,g=>by show t last=f;rw[←h last (by simp)];exact g
 | i::e,last,h,g=>⟨by rw[←h last (by simp)];exact g.1,OX e i (λx hx=>h x (by simp only[List.mem_cons] at hx ⊢;exact .inr hx)) g.2⟩
theorem sN {f:Nat}:∀ (e:List Nat) (last:Nat),(last::e).Nodup→Sg (nx f last e) f last e
 | [],last,_=>rfl
 | i :: e, last, hn => by
  rw[List.nodup_cons] at hn
  refine⟨by simp[nx],OX e i (λx hx=>?_) (sN e i hn.2)⟩
  have:x≠last:=λh=>by subst h;exact hn.1 hx
  show _=bif x == last then i else nx f i e x
  rw[beq_eq_false_iff_ne.2 this];rfl
theorem iE {s:Nat→Nat} {f:Nat}:∀ (e:List Nat) (last:Nat),Sg s f last e→(last::e).map s=e++[f]
 | [],last,h=>by simp[show s last=f from h]
 | i :: e, last, h => by
  rw[List.map_cons,h.1,iE e i h.2];rfl
theorem ZF {s:Nat→Nat} {f:Nat} {Q:Bn→Prop}:∀ (e:List Nat) (last:Nat) (R:Bn),Sg s f last e→BB N H W Q f R last e→∀ y∈last::e,H (s y)=W y
 | [],last,R,h,g,y,hy=>by rw[List.mem_singleton.1 hy,show s last=f from h,g.1]
 | i :: e, last, R, h, g, y, hy => by
  rcases List.mem_cons.1 hy with rfl | hy
  ·rw[h.1];exact g.2.2.1
  ·exact ZF e i _ h.2 g.2.2.2 y hy
theorem ZG {s:Nat→Nat}:∀ (l:List Nat),(l.map s).Nodup→∀ a∈l,∀ b∈l,s a=s b→a=b
 | [],_,_,h,_,_,_=>by cases h
 | x :: l, hn, a, ha, b, hb, e => by
  rw[List.map_cons,List.nodup_cons] at hn
  rcases List.mem_cons.1 ha with ha | ha <;> rcases List.mem_cons.1 hb with hb | hb
  ·rw[ha,hb]
  ·exact absurd (List.mem_map.2 ⟨b,hb,by rw[←ha];exact e.symm⟩) hn.1
  ·exact absurd (List.mem_map.2 ⟨a,ha,by rw[←hb];exact e⟩) hn.1
  ·exact ZG l hn.2 a ha b hb e
theorem iF:∀ (L:List (List Nat)) (S:Bn),BI N H W S L→∃ s,BO N H W S s∧∀ r∈L,∃ f e,r=f::e∧Sg s f f e
 | [],S,h=>⟨λi=>i,⟨λi hi hs=>absurd hs (by rw[h i hi];exact Bool.false_ne_true),λi j hi _ hs _ _=>absurd hs (by rw[h i hi];exact Bool.false_ne_true)⟩,λr hr=>by cases hr⟩
 | r :: L, S, h => by
  obtain⟨f,e,rfl,⟨h1,h2,h3⟩,h4,h5⟩:=h
  obtain⟨t,⟨t1,t2⟩,t3⟩:=iF L _ h5
  have hnd:(f::e).Nodup:=by
   rw[List.nodup_cons]
   refine⟨λh=>?_,Kb e _ _ h4⟩
   have:=(Jc e _ _ h4 f h).2
   simp[del] at this
  have hpe:∀ x∈f::e,x < N∧S x=true:=by
   intro x hx
   rcases List.mem_cons.1 hx with rfl | hx
   ·exact⟨h1,h2⟩
   ·have:=Jc e _ _ h4 x hx
    refine⟨this.1,?_⟩
    have:=this.2
    simp[del] at this;exact this.1
  have hs:∀ x,x∈f::e→(bif (f::e).contains x then nx f f e x else t x)=nx f f e x:=λx hx=>by rw[(Gt _ _).2 hx];rfl
  have hs':∀ x,x ∉ f::e→(bif (f::e).contains x then nx f f e x else t x)=t x:=λx hx=>by rw[(G5 _ _).2 hx];rfl
  have hsg:=sN (f:=f) e f hnd
  have hmap:=iE e f hsg
  have hnm:((f::e).map (nx f f e)).Nodup:=by
   rw[hmap]
   rw[List.nodup_cons] at hnd
   rw[List.nodup_append]
   refine⟨hnd.2,by simp,?_⟩
   intro a ha b hb
   rw[List.mem_singleton.1 hb]
   exact λe=>by subst e;exact hnd.1 ha
  have Un:∀ x∈f::e,nx f f e x∈f::e:=by
   intro x hx
   have:nx f f e x∈(f::e).map (nx f f e):=List.mem_map.2 ⟨x,hx,rfl⟩
   rw[hmap] at this
   simpa [or_comm] using this
  refine⟨λx=>bif (f::e).contains x then nx f f e x else t x,⟨?_,?_⟩,?_⟩
  ·intro i hi hsi
   by_cases hm:i∈f::e
   ·simp only[hs i hm]
    exact⟨(hpe _ (Un i hm)).1,(hpe _ (Un i hm)).2,ZF e f _ hsg h4 i hm⟩
   ·simp only[hs' i hm]
    obtain⟨g1,g2,g3⟩:=t1 i hi (Gu.2 ⟨hsi,hm⟩)
    exact⟨g1,(Gu.1 g2).1,g3⟩
  ·intro i j hi hj hsi hsj he
   by_cases hm:i∈f::e <;> by_cases hm2:j∈f::e
   ·simp only[hs i hm,hs j hm2] at he
    exact ZG _ hnm i hm j hm2 he
   ·simp only[hs i hm,hs' j hm2] at he
    have:=(t1 j hj (Gu.2 ⟨hsj,hm2⟩)).2.1
    rw[←he] at this
    exact absurd (Un i hm) (Gu.1 this).2
   ·simp only[hs' i hm,hs j hm2] at he
    have:=(t1 i hi (Gu.2 ⟨hsi,hm⟩)).2.1
    rw[he] at this
    exact absurd (Un j hm2) (Gu.1 this).2
   ·simp only[hs' i hm,hs' j hm2] at he
    exact t2 i j hi hj (Gu.2 ⟨hsi,hm⟩) (Gu.2 ⟨hsj,hm2⟩) he
  ·intro r hr
   rcases List.mem_cons.1 hr with rfl | hr
   ·exact⟨f,e,rfl,OX e f (λx hx=>(hs x hx).symm) hsg⟩
   ·obtain⟨f',e',rfl,hsg'⟩:=t3 r hr
    refine⟨f',e',rfl,OX e' f' (λx hx=>(hs' x ?_).symm) hsg'⟩
    -- the places of the other rings are others
    have:∀ (L:List (List Nat)) (S:Bn),BI N H W S L→∀ r∈L,∀ x∈r,S x=true:=by
     intro L
     induction L with
     | nil=>intro S _ r hr;cases hr
     | cons q L ih =>
      intro S h r hr x hx
      obtain⟨f,e,rfl,⟨h1,h2,h3⟩,h4,h5⟩:=h
      rcases List.mem_cons.1 hr with rfl | hr
      ·rcases List.mem_cons.1 hx with rfl | hx
       ·exact h2
       ·have:=(Jc e _ _ h4 x hx).2;simp[del] at this;exact this.1
      ·exact(Gu.1 (ih _ h5 r hr x hx)).1
    exact(Gu.1 (this L _ h5 _ hr x hx)).2
theorem nX {S:Bn} {s:Nat→Nat} (hv:BO N H W S s) {k:Nat} (hk:N < k):BI N H W S (nl s k (els N S) []):=by
 have:=(iC hv hk (els N S) [] (R7 S) (λp hp=>Fh.1 hp) (λi _ _=>by simp) (λi hi h=>Fh.2 ⟨hi,by simpa [rem] using h⟩)).1
 rwa [Jv] at this
theorem nY {S:Bn} {L:List (List Nat)} (h:BI N H W S L) {k:Nat} (hk:N < k):∃ s,BO N H W S s∧nl s k (els N S) []=L:=by
 obtain⟨s,h1,h2⟩:=iF L S h
 exact⟨s,h1,iD hk (els N S) [] L (R7 S) (λp hp=>Fh.1 hp) (λi hi h=>Fh.2 ⟨hi,by simpa [rem] using h⟩) (by rw[Jv];exact h) h2⟩
end Go.MdM
set_option maxRecDepth 100000
namespace Go.MnSM
open Go.Sp Go.MnS Go.MdM
abbrev tb (s:Nat):Bn:=s.testBit
def eL (s:Nat):List Int:=(els 10 (tb s)).map Int.ofNat
noncomputable def nZ (o:Option Value) (z:Int):Bool:=oo o false λv=>oo (Bi .i64 v) false λx=>Bd x z
theorem ZH {o:Option Value} {z:Int} (h:nZ o z=true):o=some (I z):=by
 unfold nZ at h
 cases o with
 | none=>cases h
 | some v =>
  rw[Ac] at h
  cases hs:Bi .i64 v with
  | none=>rw[hs] at h;cases h
  | some x =>
   rw[hs,Ac,Lr] at h
   rw[Eh hs,eq_of_beq h]
noncomputable def bqn (a b:Bool):Bool:=bb a b (nt b)
theorem oD {a b:Bool}:bqn a b=true→a=b:=by cases a <;> cases b <;> intro h <;> first | rfl | cases h
theorem Ach:NL (λs=>NL (λi=>bqn (Bd (Np .u16 (G6 .u16 (Int.ofNat s) i) 1) 1) (s.testBit i)) 10) 1024=true:=by kernel_rfl
theorem p53 (n s i:Nat) (hs:s < 1024) (hi:i < 10):FK (n+1) 53 [.int .u16 (Int.ofNat s),I (Int.ofNat i)]=some (.bool (s.testBit i)):=by
 refine Eq.trans (b:=nO (FK n) 1000000 (Int.ofNat s) (Int.ofNat i)) (by kernel_rfl) ?_
 unfold nO
 rw[Cx,Ac,oD (Rp (Rp Ach s hs) i hi)]
def AgX (s:Nat):Bool:=decide (bl 10 0 s=eL s)
theorem oF:NL AgX 1024=true:=by kernel_rfl
theorem sO (s:Nat) (hs:s < 1024):bl 10 0 s=eL s:=of_decide_eq_true (Rp oF s hs)
theorem oG (pu:Af):NL (λs=>nZ (nP pu 1000000 (Int.ofNat s)) (Int.ofNat (card 10 (tb s)))) 1024=true:=by kernel_rfl
theorem p64 (n s:Nat) (hs:s < 1024):FK (n+1) 64 [.int .u16 (Int.ofNat s)]=some (I (Int.ofNat (card 10 (tb s)))):=by
 refine Eq.trans (b:=nP (FK n) 1000000 (Int.ofNat s)) (by kernel_rfl) ?_
 exact ZH (Rp (oG _) s hs)
def cl (s k:Nat):Nat:=s &&& (1023 ^^^ 2 ^ k)
theorem iG:NL (λs=>NL (λk=>Bd (QV .u16 (Int.ofNat s) (QW .u16 1 k)) (Int.ofNat (cl s k))) 10) 1024=true:=by kernel_rfl
theorem OY (s k:Nat) (hs:s < 1024) (hk:k < 10):QV .u16 (Int.ofNat s) (QW .u16 1 k)=Int.ofNat (cl s k):=by
 have:=Rp (Rp iG s hs) k hk
 rw[Lr] at this
 exact eq_of_beq this
theorem oH (i:Nat) (hi:i < 10):Nat.testBit 1023 i=true:=by
 match i,hi with
 | 0,_=>rfl | 1,_=>rfl | 2,_=>rfl | 3,_=>rfl | 4,_=>rfl | 5,_=>rfl | 6,_=>rfl | 7,_=>rfl | 8,_=>rfl | 9,_=>rfl
theorem Aci (s k i:Nat) (hi:i < 10):(cl s k).testBit i=(s.testBit i && !(i == k)):=by
 unfold cl
 rw[Nat.testBit_and,Nat.testBit_xor,oH i hi,Nat.testBit_two_pow]
 by_cases h:k=i
 ·subst h;simp
 ·have:¬ i=k:=λe=>h e.symm
  simp[h,this]
theorem Xe (s k m:Nat) (hs:s < 2 ^ m):cl s k < 2 ^ m:=Nat.lt_of_le_of_lt Nat.and_le_left hs
theorem Jw {s m i:Nat} (hs:s < 2 ^ m) (hi:m≤i):s.testBit i=false:=Nat.testBit_lt_two_pow (Nat.lt_of_lt_of_le hs (Nat.pow_le_pow_right (by decide) hi))
theorem Sq {m:Nat} (h:m≤10):(2:Nat) ^ m≤1024:=Nat.pow_le_pow_right (n:=2) (by decide) h
theorem ZI (m:Nat) (hm:m≤10) (S:Bn) (hs:∀ i,m≤i→S i=false):els 10 S=els m S:=by
 unfold els
 obtain⟨d,hd⟩:=Nat.exists_eq_add_of_le hm
 rw[hd,List.range_add,List.filter_append]
 have:((List.range d).map (m + ·)).filter S=[]:=by
  rw[List.filter_eq_nil_iff];intro a ha
  simp at ha;obtain⟨b,_,rfl⟩:=ha
  rw[hs _ (by omega)];exact Bool.false_ne_true
 rw[this,List.append_nil]
theorem iH {s m:Nat} (hm:m≤10) (hs:s < 2 ^ m):eL s=(els m (tb s)).map Int.ofNat:=by
 unfold eL;rw[ZI m hm (tb s) (λi hi=>Jw hs hi)]
theorem Acj {s m:Nat} (hm:m≤10) (hs:s < 2 ^ m):card 10 (tb s)=card m (tb s):=by
 rw[←Ha,←Ha,ZI m hm (tb s) (λi hi=>Jw hs hi)]
theorem VV {s k m:Nat} (hm:m≤10):∀ i,i < m→tb (cl s k) i=del (tb s) k i:=λi hi=>Aci s k i (by omega)
def fn (l:List Int):Nat→Int:=λi=>l.getD i 0
theorem Gv {l:List Int} {i:Nat} (h:i < l.length):fn l i=l[i]:=by unfold fn;rw[List.getD_eq_getElem?_getD,List.getElem?_eq_getElem h,Option.getD_some]
theorem OZ (i:Nat) (S:Bn) (f:Nat→Int) (x:Int):cn (i+1) S f x=cn i S f x+(if S i=true∧f i=x then 1 else 0):=by
 unfold cn
 rw[List.range_succ,List.countP_append,List.countP_singleton]
 congr 1
 cases h:S i <;> simp
theorem sQ (i:Nat) (S:Bn) (f:Nat→Int) (x:Int):cn i S f x≤i:=by
 unfold cn
 exact Nat.le_trans List.countP_le_length (by simp)
theorem Ack {i:Nat} {S:Bn} {f:Nat→Int} {x:Int} (h:∀ j,j < i→f j≠x):cn i S f x=0:=by
 unfold cn
 rw[List.countP_eq_zero]
 intro j hj
 have:=h j (by simpa using hj)
 simp[this]
theorem oI (pu:Af) (n:Nat) (q:List Int) (hq:q.length=5):∃ b,WU pu n (q.map I)=some (.bool b)∧(b=true↔∀ j,j < 5→q.getD j 0=0):=by
 match q,hq with
 | [a, b, c, d, e], _ =>
  refine⟨bq true (an (Bd a 0) (an (Bd b 0) (an (Bd c 0) (an (Bd d 0) (an (Bd e 0) true))))),rfl,?_⟩
  have:(bq true (an (Bd a 0) (an (Bd b 0) (an (Bd c 0) (an (Bd d 0) (an (Bd e 0) true)))))=true)↔a=0∧b=0∧c=0∧d=0∧e=0:=by
   simp[Lr]
  rw[this]
  constructor
  ·rintro⟨rfl,rfl,rfl,rfl,rfl⟩ j hj
   match j,hj with | 0,_=>rfl | 1,_=>rfl | 2,_=>rfl | 3,_=>rfl | 4,_=>rfl | j+5,hj=>omega
  ·intro g;exact⟨g 0 (by omega),g 1 (by omega),g 2 (by omega),g 3 (by omega),g 4 (by omega)⟩
end Go.MnSM
