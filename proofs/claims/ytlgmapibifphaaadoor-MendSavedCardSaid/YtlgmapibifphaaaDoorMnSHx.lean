import Derived.Test.YtlgmapibifphaaaDoorMnSLaw5x
import Derived.Test.YtlgmapibifphaaaDoorSpItx
import Derived.Test.YtlgmapibifphaaaDoorSpObjx
set_option maxRecDepth 100000
namespace Go.MnSM
open Go.Sp Go.MnS Go.MdM
def X6 (l:List Int):Prop:=∀ x∈l,0≤x∧x < 5
theorem bY (q:List Int) (X Y:Nat) (hq:q.length=5) (hX:X < 5) (hY:Y < 5) (hb:∀ j,j < 5→-1000≤q.getD j 0∧q.getD j 0≤1000) :
 (q.map I)[X]?=some (I (q.getD X 0))∧Aj .i64 (Int.add (q.getD X 0) 1)=q.getD X 0+1∧BM ([I (q.getD X 0+1)]:List Value) X (q.map I)=(q.set X (q.getD X 0+1)).map I ∧
 ((q.set X (q.getD X 0+1)).map I)[Y]?=some (I ((q.set X (q.getD X 0+1)).getD Y 0))∧Aj .i64 (Int.sub ((q.set X (q.getD X 0+1)).getD Y 0) 1)=(q.set X (q.getD X 0+1)).getD Y 0 - 1 ∧
 BM ([I ((q.set X (q.getD X 0+1)).getD Y 0 - 1)]:List Value) Y ((q.set X (q.getD X 0+1)).map I)=(upd q X Y).map I:=by
 have gX : q[X]'(by omega) = q.getD X 0 := by simp [List.getD_eq_getElem?_getD, hq, hX]
 have hl1:(q.set X (q.getD X 0+1)).length=5:=by simp[hq]
 have gY : (q.set X (q.getD X 0 + 1))[Y]'(by omega) = (q.set X (q.getD X 0 + 1)).getD Y 0 := by simp [List.getD_eq_getElem?_getD, hq, hY]
 have hbY:-1001≤(q.set X (q.getD X 0+1)).getD Y 0∧(q.set X (q.getD X 0+1)).getD Y 0≤1001:=by
  have h1:=hb X hX
  have h2:=hb Y hY
  rw[WW _ _ _ _ (by omega)]
  split <;> omega
 refine ⟨?_, Oe _ (by have := hb X hX; show _ ≤ q.getD X 0 + 1; omega) (by have := hb X hX; show q.getD X 0 + 1 ≤ _; omega), ?_, ?_,
  Oe _ (by show _≤(q.set X (q.getD X 0+1)).getD Y 0 - 1;omega) (by show (q.set X (q.getD X 0+1)).getD Y 0 - 1≤_;omega),?_⟩
 ·rw[Aja q X (by omega),gX]
 ·rw[Jh _ _ _ (by simp[hq,hX]),List.map_set]
 ·rw[Aja _ Y (by omega),gY]
 ·rw[Jh _ _ _ (by simp[hq,hY]),←List.map_set];rfl
theorem ZJ {l:List Int} (hl:X6 l) {i:Nat} (h:i < l.length):∃ X:Nat,l[i]=Int.ofNat X∧X < 5:=by
 obtain⟨h1,h2⟩:=hl _ (List.getElem_mem h)
 exact⟨l[i].toNat,(Int.toNat_of_nonneg h1).symm,by omega⟩
theorem ZK {l:List Int} (hl:X6 l) {x:Int} (hx:¬ (0≤x∧x < 5)) (S:Bn) {i:Nat} (hi:i≤l.length):cn i S (fn l) x=0:=by
 refine Ack λj hj e=>hx ?_
 rw[Gv (by omega)] at e
 rw[←e];exact hl _ (List.getElem_mem _)
theorem l71 (n m fl fl' s:Nat) (k:Int) (h w:List Int) (hN:h.length≤10) (hw:w.length=h.length) (hs:s < 1024) (hk:X6 h) (hkw:X6 w):∀ (f i:Nat) (q:List Int),h.length - i < f→i≤h.length→q.length=5 →
 (∀ j,j < 5→q.getD j 0=cn i (tb s) (fn h) (j:Int) - cn i (tb s) (fn w) (j:Int)) →
 ∃ b,RX (FK (n+1)) m f (Int.ofNat s) (Int.ofNat h.length) (Int.ofNat i) k (sl fl h) (sl fl' w) (q.map I)=some (.bool b)∧(b=true↔Bp h.length (fn h) (fn w) (tb s)):=by
 intro f
 induction f with
 | zero=>intro i q hi;omega
 | succ f ih =>
  intro i q hi hil hq hinv
  show ∃ b,WV (FK (n+1)) m (RX (FK (n+1)) m f) _ _ _ _ _ _ _=_∧_
  unfold WV
  rw[Bh,kL,Ak]
  by_cases hlt:i < h.length
  ·have hlw:i < w.length:=by omega
   rw[FM hlt,Ak]
   have p:=p53 n s i hs (by omega)
   simp only[p,Ac,BU]
   cases hb:s.testBit i with
   | false =>
    rw[AA]
    unfold Ud
    rw[Bh,kL,Ak,DC i (by omega)]
    refine ih (i+1) q (by omega) (by omega) hq λj hj=>?_
    rw[hinv j hj,OZ,OZ]
    simp[tb,hb]
   | true =>
    obtain⟨X,eX,hX⟩:=ZJ hk hlt
    obtain⟨Y,eY,hY⟩:=ZJ hkw hlw
    have hbq:∀ j,j < 5→-1000≤q.getD j 0∧q.getD j 0≤1000:=fun j hj=>by
     have:=hinv j hj
     have c1:=sQ i (tb s) (fn h) (j:Int)
     have c2:=sQ i (tb s) (fn w) (j:Int)
     omega
    obtain⟨u1,u2,u3,u4,u5,u6⟩:=bY q X Y hq hX hY hbq
    have hl1:(q.set X (q.getD X 0+1)).length=5:=by simp[hq]
    unfold Ud
    simp only[Ak,Cx,Ac,I4,GX,blt_eq,hlt,hlw,decide_true,CF,Bool.true_and,BZ,Nat.mul_one,Aja h i hlt,Aja w i hlw,BP,eX,eY,hX,hY,Nat.zero_add,u1,u2,u3,u4,u5,u6,ble_eq,AV,List.length_map,hq,hl1,Nat.succ_le_of_lt hX,Nat.succ_le_of_lt hY,Bh,kL,DC i (by omega:i < 1000000)]
    refine ih (i+1) (upd q X Y) (by omega) (by omega) (by rw[Zy,hq]) λj hj=>?_
    rw[Zz q X Y j (by omega) (by omega) (by omega),hinv j hj,OZ,OZ,Gv hlt,Gv hlw,eX,eY]
    have t1:(tb s i=true∧Int.ofNat X=(j:Int))↔j=X:=by simp[tb,hb];omega
    have t2:(tb s i=true∧Int.ofNat Y=(j:Int))↔j=Y:=by simp[tb,hb];omega
    simp only[t1,t2]
    split <;> split <;> simp <;> omega
  ·have:i=h.length:=by omega
   subst this
   rw[FL hlt,AA]
   obtain⟨b,e,hb⟩:=oI (FK (n+1)) m q hq
   refine⟨b,e,hb.trans ⟨λg x=>?_,λg j hj=>?_⟩⟩
   ·by_cases hx:0≤x∧x < 5
    ·obtain⟨j,rfl⟩:∃ j:Nat,x=j:=⟨x.toNat,by omega⟩
     have h1:=hinv j (by omega)
     have h2:=g j (by omega)
     omega
    ·rw[ZK hk hx _ (Nat.le_refl _),ZK hkw hx _ (by omega)]
   ·rw[hinv j hj,g j];omega
theorem p71 (n fl fl' s:Nat) (k:Int) (h w:List Int) (hN:h.length≤10) (hw:w.length=h.length) (hs:s < 1024) (hk:X6 h) (hkw:X6 w) :
 ∃ b,FK (n+2) 71 [tr fl fl' k h w,.int .u16 (Int.ofNat s)]=some (.bool b)∧(b=true↔Bp h.length (fn h) (fn w) (tb s)):=by
 obtain⟨b,e,hb⟩:=l71 n 1000000 fl fl' s k h w hN hw hs hk hkw 1000000 0 [0,0,0,0,0] (by omega) (by omega) rfl (by intro j hj;match j,hj with | 0,_=>rfl | 1,_=>rfl | 2,_=>rfl | 3,_=>rfl | 4,_=>rfl | j+5,hj=>omega)
 refine⟨b,?_,hb⟩
 refine Eq.trans (b:=RX (FK (n+1)) 1000000 1000000 (Int.ofNat s) (Int.ofNat h.length) (Int.ofNat 0) k (sl fl h) (sl fl' w) (([0,0,0,0,0]:List Int).map I)) (by kernel_rfl) e
end Go.MnSM
set_option maxRecDepth 100000
namespace Go.MnSM
open Go.Sp Go.MnS Go.MdM
abbrev U (s:Nat):Value:=.int .u16 (Int.ofNat s)
def Co (T:Nat→Int) (es:List EO):Prop:=∀ e∈es,∃ s b,e=⟨U s,I (T s),b⟩
theorem AgY {a b:Nat} (h:U a=U b):a=b:=by injection h with _ h;injection h
theorem FY {T:Nat→Int} {es:List EO} (h:Co T es):Au F4 es=true:=by
 rw[Bh,List.all_eq_true]
 intro e he
 obtain⟨s,b,rfl⟩:=h e he
 rfl
theorem QA {T:Nat→Int} (s:Nat):∀ (es:List EO) (i:Nat),Co T es →
 (GD (U s) es i=some none∧∀ e∈es,e.key≠U s)∨∃ j b,GD (U s) es i=some (some (i+j,I (T s)))∧es[j]?=some ⟨U s,I (T s),b⟩
 | [],i,_=>.inl ⟨rfl,λe he=>by cases he⟩
 | e :: es, i, h => by
  obtain⟨t,b,rfl⟩:=h e (by simp)
  have hf:GD (U s) (⟨U t,I (T t),b⟩::es) i=bb (Bd (Int.ofNat s) (Int.ofNat t)) (some (some (i,I (T t)))) (GD (U s) es (i+1)):=rfl
  by_cases hst:s=t
  ·subst hst
   rw[hf,show Bd (Int.ofNat s) (Int.ofNat s)=true from by simp[Lr],Ak]
   exact .inr ⟨0,b,rfl,rfl⟩
  ·rw[hf,show Bd (Int.ofNat s) (Int.ofNat t)=false from by simp[Lr];omega,AA]
   rcases QA s es (i+1) (λe he=>h e (by simp[he])) with⟨h1,h2⟩|⟨j,b',h1,h2⟩
   ·refine .inl ⟨h1,λe he=>?_⟩
    rcases List.mem_cons.1 he with rfl | he
    ·intro g;exact hst (AgY g).symm
    ·exact h2 e he
   ·refine .inr ⟨j+1,b',?_,by simpa using h2⟩
    rw[h1,show i+1+j=i+(j+1) by omega]
theorem Ui {α:Type} (f:α→α):∀ (j:Nat) (l:List α) (a:α),l[j]?=some a→f a=a→SS f j l=l
 | 0,a::l,b,h,hf=>by simp at h;subst h;show f a::l=_;rw[hf]
 | j + 1, a :: l, b, h, hf => by
  show a::SS f j l=_
  rw[Ui f j l b (by simpa using h) hf]
 | _,[],_,h,_=>by simp at h
theorem Acl {T:Nat→Int} (s c:Nat) {es:List EO} (h:Co T es):∃ r,GD (U s) es 0=some r∧Co T (Gr (U s) (I (T s)) c es r)∧(∀ e∈es,e∈Gr (U s) (I (T s)) c es r):=by
 rcases QA s es 0 h with⟨h1,h2⟩|⟨j,b,h1,h2⟩
 ·refine⟨none,h1,?_,?_⟩
  ·show Co T (Br es [⟨U s,I (T s),c⟩])
   rw[BH]
   intro e he
   rcases List.mem_append.1 he with he | he
   ·exact h e he
   ·exact⟨s,c,List.mem_singleton.1 he⟩
  ·intro e he
   show e∈Br es _
   rw[BH];simp[he]
 ·refine⟨_,h1,?_⟩
  have:Gr (U s) (I (T s)) c es (some (0+j,I (T s)))=es:=by
   show SS (λe=>⟨U s,I (T s),e.born⟩) (0+j) es=es
   rw[Nat.zero_add]
   exact Ui _ j es _ h2 rfl
  rw[this];exact⟨h,λe he=>he⟩
def ptr:Value:=.pointer (some ⟨1,0,none⟩)
def PN (fl fl':Nat) (k:Int) (h w:List Int):Value:=.agg ⟨[I k,S fl h,S fl' w,.map (some 2)]⟩
noncomputable def mp (es:List EO) (c:Nat):Value:=Ef (.map es c)
noncomputable def Cs (h w:List Int) (s:Nat):Int:=Int.ofNat (M h.length (fn h) (fn w) (tb s))
def Gm (h w:List Int) (es:List EO):Prop:=Co (Cs h w) es∧∃ b,(⟨U 0,I (Cs h w 0),b⟩:EO)∈es
theorem bZ (N:Nat) (H W:Nat→Int) (S:Bn):M N H W S≤N:=by
 have:∀ k (S:Bn),card N S≤k→M N H W S≤card N S:=by
  intro k
  induction k with
  | zero=>intro S hk;rw[Kc (by omega)];exact Nat.zero_le _
  | succ k ih =>
   intro S hk
   by_cases h0:card N S=0
   ·rw[Kc h0];exact Nat.zero_le _
   ·rw[VL S h0]
    have h1:mx ((els N S).map fun i=>M N H W (del S i))≤card N S - 1:=by
     refine sK λa ha=>?_
     obtain⟨i,hi,rfl⟩:=List.mem_map.1 ha
     obtain⟨h1,h2⟩:=Fh.1 hi
     have h3:=Gn h1 h2
     have:=ih (del S i) (by omega)
     omega
    have:=Yc (Bp N H W S)
    omega
 have h1:=this _ S (Nat.le_refl _)
 have h2:card N S≤N:=by unfold card;exact Nat.le_trans List.countP_le_length (by simp)
 omega
theorem oJ (l:List Nat) (i:Nat) (h:i < l.length):mx (l.take (i+1))=max (mx (l.take i)) l[i]:=by
 rw[List.take_succ_eq_append_getElem h]
 unfold mx
 rw[List.foldl_append];rfl
section
variable (fl fl':Nat) (k:Int) (h w:List Int) (hN:h.length≤10) (hw:w.length=h.length) (hk:X6 h) (hkw:X6 w)
def CY (n d:Nat):Prop:=∀ s es c,card h.length (tb s)≤d→s < 2 ^ h.length→Gm h w es →
 ∃ es' c',FK n 10660 [ptr,U s,PN fl fl' k h w,mp es c]=some (.tuple ⟨[I (Cs h w s),PN fl fl' k h w,mp es' c']⟩)∧Gm h w es'
include hN hw hk hkw
theorem iI (n s c:Nat) (es:List EO) (hs:s < 2 ^ h.length) (hg:Gm h w es) (h0:card h.length (tb s)≠0) :
 ∃ es' c',LK (FK (n+2)) 1000000 (Int.ofNat s) (Int.ofNat (mx ((els h.length (tb s)).map λi=>M h.length (fn h) (fn w) (del (tb s) i)))) k (sl fl h) (sl fl' w) es c=some (.tuple ⟨[I (Cs h w s),PN fl fl' k h w,mp es' c']⟩)∧Gm h w es':=by
 obtain⟨b,e,hb⟩:=p71 n fl fl' s k h w hN hw (Nat.lt_of_lt_of_le hs (Sq hN)) hk hkw
 obtain⟨r,h1,h2,h3⟩:=Acl (T:=Cs h w) s c hg.1
 have K4:KW (FK (n+2)) 1000000 (Int.ofNat s) (Cs h w s) k (sl fl h) (sl fl' w) es c=some (.tuple ⟨[I (Cs h w s),PN fl fl' k h w,mp (Gr (U s) (I (Cs h w s)) c es r) (Ja c r)]⟩):=by
  unfold KW
  rw[h1,Ac,FY h2,Ak];rfl
 have gm:Gm h w (Gr (U s) (I (Cs h w s)) c es r):=⟨h2,hg.2.elim λb hb=>⟨b,h3 _ hb⟩⟩
 refine⟨_,Ja c r,?_,gm⟩
 unfold LK
 have hm:=VL (N:=h.length) (H:=fn h) (W:=fn w) (tb s) h0
 have hlt:=bZ h.length (fn h) (fn w) (tb s)
 unfold tr S at e
 rw[e,Ac,BU,Ac,FY hg.1,Ak]
 cases b with
 | true =>
  rw[WY (hb.1 rfl)] at hm
  rw[Ak,DC _ (by omega),←hm]
  exact K4
 | false =>
  rw[WZ (λg=>by simpa using hb.2 g)] at hm
  rw[AA,show mx _=M h.length (fn h) (fn w) (tb s) from hm.symm]
  exact K4
theorem Acm (n d s:Nat) (hs:s < 2 ^ h.length) (hd:card h.length (tb s)≤d+1) (h0:card h.length (tb s)≠0) (ih0:CY fl fl' k h w (n+2) d):∀ (f i c:Nat) (es:List EO),(eL s).length - i < f→i≤(eL s).length→Gm h w es →
 ∃ es' c', MR (FK (n + 2)) 1000000 f (Int.ofNat s) (Int.ofNat (mx (((els h.length (tb s)).map fun i => M h.length (fn h) (fn w) (del (tb s) i)).take i))) (sl 0 (eL s)) (Int.ofNat (eL s).length) (Int.ofNat i) k (sl fl h) (sl fl' w) es c =
  some (.tuple ⟨[I (Cs h w s),PN fl fl' k h w,mp es' c']⟩)∧Gm h w es':=by
 intro f
 have heL:=iH hN hs
 have hlen:(eL s).length=(els h.length (tb s)).length:=by rw[heL,List.length_map]
 have hcd:(els h.length (tb s)).length≤10:=by
  rw[Ha];unfold card;exact Nat.le_trans List.countP_le_length (by simpa using hN)
 induction f with
 | zero=>intro i c es hi;omega
 | succ f ih =>
  intro i c es hi hil hg
  show ∃ es' c',ML (FK (n+2)) 1000000 (MR (FK (n+2)) 1000000 f) _ _ _ _ _ _ _ _ _ _=_∧_
  unfold ML
  rw[FY hg.1,Ak]
  by_cases hlt:i < (eL s).length
  ·have hlt':i < (els h.length (tb s)).length:=by omega
   have hx:(eL s)[i]=Int.ofNat ((els h.length (tb s))[i]):=by simp only[heL,List.getElem_map]
   obtain⟨x1,x2⟩:=Fh.1 (List.getElem_mem hlt')
   generalize hxe:(els h.length (tb s))[i]=x at *
   have hcl:=Xe s x h.length hs
   have hdel:∀ j,j < h.length→tb (cl s x) j=del (tb s) x j:=VV hN
   have hcd2:card h.length (tb (cl s x))≤d:=by
    rw[Hy hdel];have:=Gn x1 x2;omega
   obtain⟨es1,c1,e1,g1⟩:=ih0 (cl s x) es c hcd2 hcl hg
   have hT:Cs h w (cl s x)=Int.ofNat (M h.length (fn h) (fn w) (del (tb s) x)):=by unfold Cs;rw[Kg hdel]
   unfold PN S mp ptr at e1
   rw[FM hlt]
   have hgx:((eL s).map I)[i]?=some (I (Int.ofNat x)):=by rw[Aja _ i hlt,hx]
   simp only[Ak,Cx,Ac,I4,GX,blt_eq,hlt,decide_true,CF,Bool.true_and,BZ,Nat.mul_one,hgx,BP,OY s x (Nat.lt_of_lt_of_le hs (Sq hN)) (by omega)]
   rw[e1]
   simp only[Ac,FW,Dj,EG,RL,BP,Dc,CX,FY g1.1,Ak,DC i (by omega),gP,hT]
   rw[show FC (Value.map (some 2)) 2=true from rfl,Ak]
   have hmx:=oJ ((els h.length (tb s)).map λi=>M h.length (fn h) (fn w) (del (tb s) i)) i (by simpa using hlt')
   simp only[List.getElem_map,hxe] at hmx
   have hmaxI:∀ a b:Nat,max (Int.ofNat a) (Int.ofNat b)=Int.ofNat (max a b):=λa b=>by simp only[Int.ofNat_eq_natCast];omega
   rw[hmaxI,←hmx]
   exact ih (i+1) c1 es1 (by omega) (by omega) g1
  ·have hi':i=(eL s).length:=by omega
   subst hi'
   rw[FL hlt,AA,List.take_of_length_le (by rw[List.length_map];omega)]
   exact iI fl fl' k h w hN hw hk hkw n s c es hs hg h0
theorem Yd:∀ (d n:Nat),CY fl fl' k h w (n+d+3) d:=by
 intro d
 induction d with
 | zero =>
  intro n s es c hd hs hg
  have hz:s=0:=by
   apply Nat.eq_of_testBit_eq
   intro i
   rw[Nat.zero_testBit]
   by_cases hi:i < h.length
   ·exact Jb (by omega:card h.length (tb s)=0) i hi
   ·exact Jw hs (by omega)
  subst hz
  obtain⟨b0,hb0⟩:=hg.2
  refine⟨es,c,?_,hg⟩
  refine Eq.trans (b:=K6 (FK (n+0+2)) 1000000 (Int.ofNat 0) k (sl fl h) (sl fl' w) es c) ?_ ?_
  ·show LU _ _ [ptr,U 0,PN fl fl' k h w,mp es c]=_
   unfold LU PN S mp ptr
   simp only[Dj,EG,CX,Ab7,BP,RL,Dc,Ac]
   rfl
  unfold K6
  rw[FY hg.1,Ak]
  rcases QA (T:=Cs h w) 0 es 0 hg.1 with⟨h1,h2⟩|⟨j,b,h1,h2⟩
  ·exact absurd rfl (h2 _ hb0)
  ·rw[h1];rfl
 | succ d ih =>
  intro n s es c hd hs hg
  have e0:FK (n+(d+1)+3) 10660 [ptr,U s,PN fl fl' k h w,mp es c]=K6 (FK (n+(d+1)+2)) 1000000 (Int.ofNat s) k (sl fl h) (sl fl' w) es c:=by
   show LU _ _ [ptr,U s,PN fl fl' k h w,mp es c]=_
   unfold LU PN S mp ptr
   simp only[Dj,EG,CX,Ab7,BP,RL,Dc,Ac]
   rfl
  rw[e0]
  unfold K6
  rw[FY hg.1,Ak]
  rcases QA (T:=Cs h w) s es 0 hg.1 with⟨h1,h2⟩|⟨j,b,h1,h2⟩
  ·have h0 : card h.length (tb s) ≠ 0 := by
    intro hz
    have hz:s=0:=by
     apply Nat.eq_of_testBit_eq
     intro i
     rw[Nat.zero_testBit]
     by_cases hi:i < h.length
     ·exact Jb hz i hi
     ·exact Jw hs (by omega)
    subst hz
    obtain⟨b0,hb0⟩:=hg.2
    exact h2 _ hb0 rfl
   rw[h1,Ac]
   have e1:Bi .i64 (Wd none (.int .i64 0))=some 0:=rfl
   have p:=p62 (n+d+1) s (Nat.lt_of_lt_of_le hs (Sq hN))
   rw[sO s (Nat.lt_of_lt_of_le hs (Sq hN))] at p
   rw[e1,Ac,show isS (none:Option (Nat×Value))=false from rfl,AA]
   rw[show n+(d+1)+2=n+d+1+2 by omega,p,Ac]
   unfold S
   rw[Dc,Ac]
   have:=Acm fl fl' k h w hN hw hk hkw (n+d+1) d s hs hd h0 (by have:=ih n;rwa [show n+d+3=n+d+1+2 by omega] at this) 1000000 0 c es (by rw[iH hN hs,List.length_map,Ha];unfold card;have:=List.countP_le_length (l:=List.range h.length) (p:=tb s);rw[List.length_range] at this;omega) (by omega) hg
   rw[List.take_zero] at this
   exact this
  ·refine⟨es,c,?_,hg⟩
   rw[h1];rfl
end
end Go.MnSM
set_option maxRecDepth 100000
namespace Go.MnSM
open Go.Sp Go.MnS Go.MdM
theorem iJ (n fl fl':Nat) (k:Int) (h w:List Int):FK (n+1) 10650 [tr fl fl' k h w]=some (.tuple ⟨[ptr,PN fl fl' k h w,mp [⟨U 0,I 0,0⟩] 1]⟩):=by kernel_rfl
theorem TM0 (h w:List Int):Cs h w 0=0:=by
 unfold Cs
 rw[Kc];rfl
 unfold card
 rw[List.countP_eq_zero]
 intro i _
 simp[tb]
theorem gm0 (h w:List Int):Gm h w [⟨U 0,I 0,0⟩]:=by
 refine⟨λe he=>⟨0,0,?_⟩,0,?_⟩
 ·rw[List.mem_singleton.1 he,TM0]
 ·rw[TM0];simp
noncomputable def C8 (h w:List Int):Int:=Int.ofNat (card h.length (tb (bv h w))) - Cs h w (bv h w)
theorem p44 (n fl fl':Nat) (k:Int) (h w:List Int) (hN:h.length≤10) (hw:w.length=h.length) (hk:X6 h) (hkw:X6 w):FK (n+14) 44 [tr fl fl' k h w]=some (I (C8 h w)):=by
 refine Eq.trans (b:=nM (FK (n+13)) 1000000 k (sl fl h) (sl fl' w)) (by kernel_rfl) ?_
 unfold nM
 have hb:=R3 h w
 have hb2:=Nat.lt_of_lt_of_le hb (Sq hN)
 have hcd:card h.length (tb (bv h w))≤10:=by unfold card;exact Nat.le_trans List.countP_le_length (by simpa using hN)
 obtain⟨es,c,e1,g1⟩:=Yd fl fl' k h w hN hw hk hkw 10 n (bv h w) _ 1 hcd hb (gm0 h w)
 have e2:=p51 (n+12) fl fl' k h w hN hw
 have e3:=p64 (n+12) (bv h w) hb2
 have e4:=iJ (n+12) fl fl' k h w
 unfold tr S at e2 e4
 unfold PN S mp ptr at e1 e4
 rw[e2]
 simp only[Ac,Ab7]
 rw[e3]
 simp only[Ac,BP]
 rw[e4]
 simp only[Ac,FW,Dj,EG,RL,BP,Dc,CX,FY (gm0 h w).1,Ak]
 rw[show MK (Value.pointer (some ⟨1,0,none⟩)) 1 0=true from rfl,show FC (Value.map (some 2)) 2=true from rfl]
 simp only[Ak]
 unfold U at e1
 rw[e1]
 simp only[Ac,FW,Dj,EG,RL,BP,Dc,CX,FY g1.1,Ak]
 have hM:=bZ h.length (fn h) (fn w) (tb (bv h w))
 have:Aj .i64 (Int.sub (Int.ofNat (card 10 (tb (bv h w)))) (Cs h w (bv h w)))=C8 h w:=by
  rw[Acj hN hb]
  unfold C8 Cs
  exact Oe _ (by show _≤((card h.length (tb (bv h w)):Nat):Int) - ((M h.length (fn h) (fn w) (tb (bv h w)):Nat):Int);omega) (by show ((card h.length (tb (bv h w)):Nat):Int) - ((M h.length (fn h) (fn w) (tb (bv h w)):Nat):Int)≤_;omega)
 rw[this]
 rw[show FC (Value.map (some 2)) 2=true from rfl,Ak]
end Go.MnSM
set_option maxRecDepth 100000
namespace Go.MnSM
open Go.Sp Go.MnS Go.MdM
def nI (l:List Nat):List Int:=l.map Int.ofNat
theorem Gp (l:List Nat):(nI l).length=l.length:=by simp[nI]
theorem Acn (l : List Nat) (i : Nat) (h : i < l.length) : (nI l)[i]'(by rw [Gp]; exact h) = Int.ofNat l[i] := by simp [nI]
theorem iK (a b:List Nat):nI (a++b)=nI a++nI b:=by simp[nI]
theorem O0 (l:List Nat) (i:Nat) (h:i < l.length):((nI l).map I)[i]?=some (I (Int.ofNat l[i])):=by rw[Aja _ i (by rw[Gp];exact h),Acn l i h]
theorem sS (l:List Nat):Au Ah ((nI l).map I)=true:=by rw[Bh,kL]
def rv (r:List Nat):Value:=S 0 (nI r)
def LL (fl:Nat) (L:List (List Nat)):Sl:=⟨L.length,fl,L.map rv⟩
theorem cB (L:List (List Nat)):Au Ah (L.map rv)=true:=by
 rw[Bh,List.all_eq_true];intro x hx
 obtain⟨r,_,rfl⟩:=List.mem_map.1 hx;rfl
theorem Uj (sz by' n k:Nat) (xs:List Value) (hr:EQ (n+k) by'=true) (hk:1≤k) (hx:xs.length=n*sz):GV sz by' n (2*n) k xs=true:=by
 unfold GV
 have e:(2*n) / 2=n:=by omega
 have e2:(2*n) % 2=0:=by omega
 rw[e,e2,hr]
 have b1:Nat.ble (n+k) n=false:=by rw[ble_eq];exact decide_eq_false (by omega)
 have b2:Nat.ble (0+n*sz) (len xs)=true:=by rw[ble_eq,AV,hx];simp
 have b3:Nat.beq (0+n*sz) (len xs)=true:=by rw[AV,hx,Nat.zero_add];exact Nat.beq_refl _
 rw[b1,b2,b3];rfl
theorem Pj {n b:Nat} (hn:n≤1000) (hb:b≤100):EQ n b=true:=by
 unfold EQ;rw[ble_eq]
 have:=Nat.mul_le_mul (show 4*n+4096≤8096 by omega) hb
 simp;omega
theorem Ye (r:List Nat):an (Nat.ble (0+r.length*1) (len ((nI r).map I))) (Au Ah (Aq (r.length*1) (Am 0 ((nI r).map I))))=true:=by
 have:r.length*1=((nI r).map I).length:=by rw[List.length_map,Gp,Nat.mul_one]
 rw[Nat.zero_add,this,Bz,List.drop_zero,Cg,List.take_length,sS,AV,ble_eq]
 simp
theorem takeN (r:List Nat):Aq (r.length*1) (Am 0 ((nI r).map I))=(nI r).map I:=by
 have:r.length*1=((nI r).map I).length:=by rw[List.length_map,Gp,Nat.mul_one]
 rw[this,Bz,List.drop_zero,Cg,List.take_length]
theorem sU (r:List Nat) (a:Nat):Br (Am 0 ((nI r).map I)) [I (Int.ofNat a)]=(nI (r++[a])).map I:=by
 rw[BH,Bz,List.drop_zero,iK,List.map_append];rfl
theorem sV (L:List (List Nat)) (r:List Nat):Br (Am 0 (L.map rv)) [S 0 (nI r)]=(L++[r]).map rv:=by
 rw[BH,Bz,List.drop_zero,List.map_append];rfl
theorem iL (L:List (List Nat)):an (Nat.ble (0+L.length*1) (len (L.map rv))) (Au Ah (Aq (L.length*1) (Am 0 (L.map rv))))=true:=by
 have:L.length*1=(L.map rv).length:=by simp
 rw[Nat.zero_add,this,Bz,List.drop_zero,Cg,List.take_length,cB,AV,ble_eq]
 simp
theorem iM (L:List (List Nat)):Aq (L.length*1) (Am 0 (L.map rv))=L.map rv:=by
 have:L.length*1=(L.map rv).length:=by simp
 rw[this,Bz,List.drop_zero,Cg,List.take_length]
theorem ZL (s:Nat→Nat):∀ (k:Nat) (ring:List Nat) (z:Nat),ring≠[]∨0 < k→Oy s k ring z≠[]
 | 0,ring,z,h=>by rcases h with h | h;exact h;omega
 | k + 1, ring, z, _ => by
  unfold Oy
  cases hc:ring.contains z with
  | true=>rw[cond_true];intro e;subst e;cases hc
  | false=>rw[cond_false];exact ZL s k _ _ (.inl (by simp))
theorem iN (P X : List Nat) (s : Nat → Nat) (hX : X.length = P.length) (hs : ∀ i (h : i < P.length), s P[i] = X[i]'(by omega)) (hXP : ∀ x ∈ X, x ∈ P) : ∀ (k : Nat) (ring : List Nat) (z : Nat), z ∈ P → ring.Nodup → (∀ x ∈ ring, x ∈ P) → (Oy s k ring z).Nodup ∧ ∀ x ∈ Oy s k ring z, x ∈ P
 | 0,ring,z,_,hn,hr=>⟨hn,hr⟩
 | k + 1, ring, z, hz, hn, hr => by
  unfold Oy
  cases hc:ring.contains z with
  | true=>rw[cond_true];exact⟨hn,hr⟩
  | false =>
   rw[cond_false]
   have hz':z ∉ ring:=(G5 ring z).1 hc
   obtain⟨idx,hidx,hia⟩:=List.getElem_of_mem hz
   refine iN P X s hX hs hXP k _ _ (by rw[←hia,hs idx hidx];exact hXP _ (List.getElem_mem _)) (List.nodup_append.2 ⟨hn,by simp,by simp;exact λa ha e=>hz' (e ▸ ha)⟩) ?_
   intro x hx
   rcases List.mem_append.1 hx with hx | hx
   ·exact hr x hx
   ·rw[List.mem_singleton.1 hx];exact hz
section
variable (n f1 f2 : Nat) (P X : List Nat) (s : Nat → Nat) (hP : P.Nodup) (hP10 : P.length ≤ 10) (hX : X.length = P.length) (hs : ∀ i (h : i < P.length), s P[i] = X[i]'(by omega)) (hXP : ∀ x ∈ X, x ∈ P)
include hP hP10 hX hs hXP
end
end Go.MnSM
set_option maxRecDepth 100000
namespace Go.MnSM
open Go.Sp Go.MnS Go.MdM
def cmp:List Nat→List Nat→Option Bool
 | [],[]=>none
 | [],_::_=>some true
 | _::_,[]=>some false
 | a::x,b::y=>if a=b then cmp x y else some (decide (a < b))
theorem Xf:∀ (a b:List Nat),cmp a b=none→a=b
 | [],[],_=>rfl
 | [],_::_,h=>by cases h
 | _::_,[],h=>by cases h
 | a :: x, b :: y, h => by
  unfold cmp at h
  split at h
  ·rename_i e;rw[e,Xf x y h]
  ·cases h
theorem Xg:∀ (a b:List Nat) (v:Bool),cmp a b=some v→a≠b∧(v=true↔bX a b)
 | [],[],_,h=>by cases h
 | [],_::_,v,h=>by injection h with h;subst h;exact⟨by simp,by simp[bX]⟩
 | _::_,[],v,h=>by injection h with h;subst h;exact⟨by simp,by simp[bX]⟩
 | a :: x, b :: y, v, h => by
  unfold cmp at h
  split at h
  ·rename_i e
   obtain⟨h1,h2⟩:=Xg x y v h
   refine⟨λg=>h1 (by injection g),h2.trans ?_⟩
   subst e
   simp[bX]
  ·rename_i e
   injection h with h;subst h
   refine⟨λg=>e (by injection g),?_⟩
   simp[bX,e]
theorem PO (L:List (List Nat)) (i:Nat) (h:i < L.length):(L.map rv)[i]?=some (Sl.v 1 (sl 0 (nI L[i]))):=by simp[h,rv,S]
theorem O1 (fl:Nat) (l:List Int):Bj 1 (Sl.v 1 (sl fl l))=some (sl fl l):=rfl
section
variable (pu:Af) (m:Nat) (A B:List (List Nat)) (hAB:A.length=B.length)
include hAB
end
end Go.MnSM
set_option maxRecDepth 100000
namespace Go.MnSM
open Go.Sp Go.MnS Go.MdM
theorem Aco {a b:List Nat} (h:rv a=rv b):a=b:=by
 have h1:Bj 1 (rv a)=Bj 1 (rv b):=by rw[h]
 rw[show Bj 1 (rv a)=some (sl 0 (nI a)) from rfl,show Bj 1 (rv b)=some (sl 0 (nI b)) from rfl] at h1
 injection h1 with h1
 have h2:(sl 0 (nI a)).cs=(sl 0 (nI b)).cs:=by rw[h1]
 simp only[GX,nI,List.map_map] at h2
 exact List.map_inj_right (λx y g=>by simp at g;omega) |>.1 h2
theorem Acp {a b:List (List Nat)} (h:LL 0 a=LL 0 b):a=b:=by
 have h2:(LL 0 a).cs=(LL 0 b).cs:=by rw[h]
 exact(List.map_inj_right (λx y g=>Aco g)).1 h2
def iO:Sl:=⟨0,2,[]⟩
section
variable (h w:List Int) (s0:Nat) (G:List (List Nat)) (hN:h.length≤10) (hw:w.length=h.length) (hs0:s0 < 2 ^ h.length)
abbrev PL:List Nat:=els h.length (tb s0)
def Ext (X:List Nat) (s:Nat→Nat):Prop:=∀ i (hi:i < X.length) (hp:i < (PL h s0).length),s (PL h s0)[i]=X[i]
def Go2 (X:List Nat):Prop:=∃ s,BO h.length (fn h) (fn w) (tb s0) s∧Ext h s0 X s∧nl s 11 (PL h s0) []=G
def OkX (X:List Nat):Prop:=X.length≤(PL h s0).length∧X.Nodup∧(∀ x∈X,x∈PL h s0)∧∀ i (hi:i < X.length) (hp:i < (PL h s0).length),fn h X[i]=fn w (PL h s0)[i]
def mF (b:Sl):Prop:=b=iO∨∃ L,b=LL 0 L∧L≠[]∧BI h.length (fn h) (fn w) (tb s0) L
def ZM:Prop:=G≠[]∧G.length=M h.length (fn h) (fn w) (tb s0)∧∀ L,BI h.length (fn h) (fn w) (tb s0) L→L=G∨L.length < M h.length (fn h) (fn w) (tb s0)∨(L.length=M h.length (fn h) (fn w) (tb s0)∧mD G L)
theorem Yf {N:Nat} {H W:Nat→Int}:∀ (L:List (List Nat)) (S:Bn),BI N H W S L→∀ r∈L,r.length≤N+1
 | [],_,_,r,hr=>by cases hr
 | q :: L, S, hD, r, hr => by
  obtain⟨f,e,rfl,⟨h1,h2,_⟩,h4,h5⟩:=hD
  rcases List.mem_cons.1 hr with rfl | hr
  ·have:=OH e (List.range N) (Kb e _ _ h4) (λx hx=>by have:=(Jc e _ _ h4 x hx).1;simpa using this)
   rw[List.length_range] at this
   simp;omega
  ·exact Yf L _ h5 r hr
theorem iR {N:Nat} {H W:Nat→Int} {L:List (List Nat)} {S:Bn} (h:BI N H W S L):L.length≤N:=Nat.le_trans (Xd L S h).2 (bZ N H W S)
include hN in
theorem cK:(PL h s0).length≤10:=by
 unfold PL;rw[Ha];unfold card;exact Nat.le_trans List.countP_le_length (by simpa using hN)
theorem Acr:(PL h s0).Nodup:=by unfold PL els;exact List.nodup_range.filter _
theorem Xh {i:Nat} (hp:i < (PL h s0).length):(PL h s0)[i] < h.length∧tb s0 (PL h s0)[i]=true:=Fh.1 (List.getElem_mem hp)
theorem Acs {X : List Nat} (hX : OkX h w s0 X) (hl : X.length = (PL h s0).length) : ∃ s, BO h.length (fn h) (fn w) (tb s0) s ∧ ∀ i (hi : i < (PL h s0).length), s (PL h s0)[i] = X[i]'(by omega) := by
 obtain⟨_,hn,hm,hk⟩:=hX
 refine⟨λp=>X.getD ((PL h s0).idxOf p) 0,?_⟩
 have hs : ∀ i (hi : i < (PL h s0).length), X.getD ((PL h s0).idxOf (PL h s0)[i]) 0 = X[i]'(by omega) := by
  intro i hi
  rw[(Acr h s0).idxOf_getElem i hi,List.getD_eq_getElem?_getD,List.getElem?_eq_getElem (by omega),Option.getD_some]
 refine⟨⟨?_,?_⟩,hs⟩
 ·intro i hi hS
  obtain⟨j,hj,rfl⟩:=List.getElem_of_mem (show i∈PL h s0 from Fh.2 ⟨hi,hS⟩)
  simp only[hs j hj]
  obtain⟨g1,g2⟩:=Fh.1 (hm _ (List.getElem_mem (by omega:j < X.length)))
  exact⟨g1,g2,hk j (by omega) hj⟩
 ·intro a b ha hb hA hB e
  obtain⟨i,hi,rfl⟩:=List.getElem_of_mem (show a∈PL h s0 from Fh.2 ⟨ha,hA⟩)
  obtain⟨j,hj,rfl⟩:=List.getElem_of_mem (show b∈PL h s0 from Fh.2 ⟨hb,hB⟩)
  have e:X.getD ((PL h s0).idxOf (PL h s0)[i]) 0=X.getD ((PL h s0).idxOf (PL h s0)[j]) 0:=e
  rw[hs i hi,hs j hj] at e
  have:=(List.getElem_inj hn).1 e
  subst this;rfl
end
end Go.MnSM
set_option maxRecDepth 100000
namespace Go.MnSM
open Go.Sp Go.MnS Go.MdM
section
variable (h w:List Int) (s0:Nat) (G:List (List Nat)) (hN:h.length≤10) (hw:w.length=h.length) (hG:ZM h w s0 G) (hP0:PL h s0≠[])
theorem iT {X:List Nat} (hX:OkX h w s0 X) {p:Nat} (hl:X.length < (PL h s0).length) (hp:p∈PL h s0) (hn:p ∉ X) (hk:fn h p=fn w (PL h s0)[X.length]):OkX h w s0 (X++[p]):=by
 obtain⟨h1,h2,h3,h4⟩:=hX
 refine⟨by simp;omega,List.nodup_append.2 ⟨h2,by simp,by simp;exact λa ha e=>hn (e ▸ ha)⟩,?_,?_⟩
 ·intro x hx
  rcases List.mem_append.1 hx with hx | hx
  ·exact h3 x hx
  ·rw[List.mem_singleton.1 hx];exact hp
 ·intro i hi hip
  by_cases hlt:i < X.length
  ·rw[List.getElem_append_left hlt];exact h4 i hlt hip
  ·have:i=X.length:=by simp at hi;omega
   subst this
   rw[List.getElem_append_right (Nat.le_refl _)]
   simpa using hk
def Go3 (X:List Nat) (i:Nat):Prop:=∃ s,BO h.length (fn h) (fn w) (tb s0) s∧Ext h s0 X s∧nl s 11 (PL h s0) []=G∧∃ j,∃ hj:j < (PL h s0).length,∃ hx:X.length < (PL h s0).length,i≤j∧s (PL h s0)[X.length]=(PL h s0)[j]
include hN hw
include hG hP0
end
theorem Nc:∀ (h w:List Int) (i:Nat) (hi:i < h.length) (hj:i < w.length),(bv h w).testBit i = !(h[i] == w[i])
 | [],_,i,hi,_=>by simp at hi
 | _::_,[],i,_,hj=>by simp at hj
 | x :: h, y :: w, 0, _, _ => by
  rw[Nat.testBit_zero]
  simp only[bv,List.getElem_cons_zero]
  by_cases e:x=y <;> simp[e] <;> omega
 | x :: h, y :: w, i + 1, hi, hj => by
  rw[Nat.testBit_succ]
  simp only[bv,List.getElem_cons_succ]
  rw[show ((if x=y then 0 else 1)+2*bv h w) / 2=bv h w by split <;> omega]
  exact Nc h w i (by simpa using hi) (by simpa using hj)
theorem R8 (l : List Int) (x : Int) : ∀ (m : Nat), m ≤ l.length → (l.take m).count x = cn m (fun _ => true) (fn l) x
 | 0,_=>by simp[cn]
 | m + 1, h => by
  rw[OG (by omega),OZ,R8 l x m (by omega),Gv (by omega)]
  simp
theorem R9 {K:Nat} {h w:List Int} (hw:w.length=h.length) (hk:OO K h) (hkw:OO K w) (he:evn K h w):Bp h.length (fn h) (fn w) (tb (bv h w)):=by
 intro x
 have split:∀ f:Nat→Int,cn h.length (λ_=>true) f x=cn h.length (tb (bv h w)) f x+cn h.length (λi=>!(tb (bv h w) i)) f x:=λf=>
  K3 f x (λi _=>by cases tb (bv h w) i <;> rfl) (λi _ g=>by cases hb:tb (bv h w) i <;> simp[hb] at g)
 have same:cn h.length (fun i=>!(tb (bv h w) i)) (fn h) x=cn h.length (fun i=>!(tb (bv h w) i)) (fn w) x:=by
  unfold cn
  apply List.countP_congr
  intro i hi
  have hi:i < h.length:=by simpa using hi
  have hj:i < w.length:=by omega
  have:=Nc h w i hi hj
  rw[Gv hi,Gv hj]
  show (!(bv h w).testBit i && _)=true↔(!(bv h w).testBit i && _)=true
  rw[this]
  by_cases e:h[i]=w[i] <;> simp[e]
 have all:cn h.length (fun _=>true) (fn h) x=cn h.length (fun _=>true) (fn w) x:=by
  rw[←R8 h x h.length (Nat.le_refl _),←R8 w x h.length (by omega),List.take_length,←hw,List.take_length]
  by_cases hx:0≤x∧x < K
  ·obtain⟨j,rfl⟩:∃ j:Nat,x=j:=⟨x.toNat,by omega⟩
   exact he j (by omega)
  ·rw[List.count_eq_zero.2 (λhm=>hx (hk _ hm)),List.count_eq_zero.2 (λhm=>hx (hkw _ hm))]
 have s1:=split (fn h)
 have s2:=split (fn w)
 omega
noncomputable def Dn (h w:List Int):List (List Nat):=gr h.length (fn h) (fn w) h.length (tb (bv h w))
structure Ok (k:Int) (h w:List Int):Prop where
 n10:h.length≤10
 n1:1≤h.length
 len:w.length=h.length
 kh:X6 h
 kw:X6 w
 k1:1≤k∧k≤5
 kk:OO k h∧OO k w
 ev:evn k.toNat h w
 dv:BI h.length (fn h) (fn w) (tb (bv h w)) (Dn h w)
 ln:(Dn h w).length=M h.length (fn h) (fn w) (tb (bv h w))
 fst:∀ L,BI h.length (fn h) (fn w) (tb (bv h w)) L→L=Dn h w∨L.length < M h.length (fn h) (fn w) (tb (bv h w))∨(L.length=M h.length (fn h) (fn w) (tb (bv h w))∧mD (Dn h w) L)
theorem Ji (N:Nat) (S:Bn):card N S≤N:=by unfold card;exact Nat.le_trans List.countP_le_length (by simp)
theorem ZN {k:Int} {h w:List Int} (hc:chk k h w=0):Ok k h w:=by
 unfold chk at hc
 by_cases c1:1≤k∧k≤5
 ·rw[Hz c1] at hc
  by_cases c2:h.length=0
  ·rw[Hz c2] at hc;cases hc
  ·rw[I8 c2] at hc
   by_cases c3:10 < h.length
   ·rw[Hz c3] at hc;cases hc
   ·rw[I8 c3] at hc
    by_cases c4:w.length=h.length
    ·rw[Hz c4] at hc
     by_cases c5:OO k h∧OO k w
     ·rw[Hz c5] at hc
      by_cases c6:evn k.toNat h w
      ·have hK:((k.toNat:Nat):Int)=k:=by omega
       have k1:OO (k.toNat:Nat) h:=by rw[hK];exact c5.1
       have k2:OO (k.toNat:Nat) w:=by rw[hK];exact c5.2
       have he:=R9 c4 k1 k2 c6
       obtain⟨g1,g2,g3⟩:=AgW h.length (tb (bv h w)) (Ji _ _) he
       exact⟨by omega,by omega,c4,λx hx=>⟨(c5.1 x hx).1,by have:=(c5.1 x hx).2;omega⟩,λx hx=>⟨(c5.2 x hx).1,by have:=(c5.2 x hx).2;omega⟩,c1,c5,c6,g1,g2,g3⟩
      ·rw[I8 c6] at hc;cases hc
     ·rw[I8 c5] at hc;cases hc
    ·rw[I8 c4] at hc;cases hc
 ·rw[I8 c1] at hc;cases hc
end Go.MnSM
set_option maxRecDepth 100000
namespace Go.RgP
open Go Go.Sp
abbrev IV (z:Int):Value:=.int .i64 z
def O3 (ps:List (Nat×Nat)) (i:Nat):List EO:=(match ps with | []=>[] | (d,c)::r=>⟨IV (Int.ofNat d),IV (Int.ofNat c),i⟩::O3 r (i+1))
def Gw (ps:List (Nat×Nat)):List EO:=O3 ps 0
def look (d:Nat):List (Nat×Nat)→Nat
 | []=>0
 | (k,c)::r=>bif Nat.beq d k then c else look d r
theorem O4:∀ (ps:List (Nat×Nat)) (i:Nat),Au F4 (O3 ps i)=true
 | [],_=>rfl
 | (d, c) :: r, i => by
  have e:=O4 r (i+1)
  show an (F4 ⟨IV (Int.ofNat d),IV (Int.ofNat c),i⟩) (Au F4 (O3 r (i+1)))=true
  rw[e];rfl
theorem FN (ps:List (Nat×Nat)):Au F4 (Gw ps)=true:=O4 ps 0
def place (d:Nat):List (Nat×Nat)→Option (Nat×Nat)
 | []=>none
 | (k,c)::r=>bif Nat.beq d k then some (0,c) else (place d r).map λp=>(p.1+1,p.2)
theorem Uk (a b:Int):IG (IV a) (IV b)=some (Bd a b):=rfl
theorem ZO (a b:Nat):Bd (Int.ofNat a) (Int.ofNat b)=Nat.beq a b:=rfl
theorem PP (d : Nat) : ∀ (ps : List (Nat × Nat)) (i j : Nat), GD (IV (Int.ofNat d)) (O3 ps i) j = some ((place d ps).map fun p => (j + p.1, IV (Int.ofNat p.2)))
 | [],_,_=>rfl
 | (k, c) :: r, i, j => by
  show oo (IG (IV (Int.ofNat d)) (IV (Int.ofNat k))) none (λb=>bb b (some (some (j,IV (Int.ofNat c)))) (GD (IV (Int.ofNat d)) (O3 r (i+1)) (j+1)))=_
  rw[Uk,Ac,ZO]
  show _=some (Option.map _ (bif Nat.beq d k then some (0,c) else (place d r).map λp=>(p.1+1,p.2)))
  cases hb:Nat.beq d k with
  | true=>rw[Ak];rfl
  | false =>
   rw[AA,PP d r (i+1) (j+1)]
   show some _=some (Option.map _ ((place d r).map λp=>(p.1+1,p.2)))
   cases place d r with
   | none=>rfl
   | some p=>simp;omega
theorem OJ (d:Nat) (ps:List (Nat×Nat)):GD (IV (Int.ofNat d)) (Gw ps) 0=some ((place d ps).map fun p=>(p.1,IV (Int.ofNat p.2))):=by
 unfold Gw
 rw[PP]
 cases place d ps with
 | none=>rfl
 | some p=>simp
def left (n:Nat) (seen:List Nat):List Nat:=(List.range n).filter λi=>decide (i ∉ seen)
end Go.RgP
set_option maxRecDepth 100000
namespace Go.MdM
open Go Go.Sp Go.RgP
variable {V:Type} (enc:V→Value)
def Iq:List (Nat×V)→Nat→List EO
 | [],_=>[]
 | (k,v)::r,i=>⟨IV (Int.ofNat k),enc v,i⟩::Iq r (i+1)
def eG (ps:List (Nat×V)):List EO:=Iq enc ps 0
def PQ (d:Nat):List (Nat×V)→Option (Nat×V)
 | []=>none
 | (k,v)::r=>bif Nat.beq d k then some (0,v) else (PQ d r).map λp=>(p.1+1,p.2)
def Dr (d:Nat) (ps:List (Nat×V)):Option V:=(PQ d ps).map (·.2)
def pT (d:Nat) (v:V):List (Nat×V)→List (Nat×V)
 | []=>[(d,v)]
 | (k,c)::r=>bif Nat.beq d k then (k,v)::r else (k,c)::pT d v r
def rG (d:Nat) (ps:List (Nat×V)):Option (Nat×Value):=(PQ d ps).map λp=>(p.1,enc p.2)
theorem O5 (he:∀ v,closed2 (enc v)=true):∀ (ps:List (Nat×V)) (i:Nat),Au F4 (Iq enc ps i)=true
 | [],_=>rfl
 | (k, v) :: r, i => by
  show an (an (closed2 (IV (Int.ofNat k))) (closed2 (enc v))) (Au F4 (Iq enc r (i+1)))=true
  rw[O5 he r (i+1),he v];rfl
theorem Ul (he:∀ v,closed2 (enc v)=true) (ps:List (Nat×V)):Au F4 (eG enc ps)=true:=O5 enc he ps 0
theorem Qp (d : Nat) : ∀ (ps : List (Nat × V)) (i j : Nat), GD (IV (Int.ofNat d)) (Iq enc ps i) j = some ((PQ d ps).map fun p => (j + p.1, enc p.2))
 | [],_,_=>rfl
 | (k, v) :: r, i, j => by
  show oo (IG (IV (Int.ofNat d)) (IV (Int.ofNat k))) none (λb=>bb b (some (some (j,enc v))) (GD (IV (Int.ofNat d)) (Iq enc r (i+1)) (j+1)))=_
  rw[Uk,Ac,ZO]
  show _=some (Option.map _ (bif Nat.beq d k then some (0,v) else (PQ d r).map λp=>(p.1+1,p.2)))
  cases hb:Nat.beq d k with
  | true=>rw[Ak];rfl
  | false =>
   rw[AA,Qp d r (i+1) (j+1)]
   show some _=some (Option.map _ ((PQ d r).map λp=>(p.1+1,p.2)))
   cases PQ d r with
   | none=>rfl
   | some p=>simp;omega
theorem Oz (d:Nat) (ps:List (Nat×V)):GD (IV (Int.ofNat d)) (eG enc ps) 0=some (rG enc d ps):=by
 unfold eG rG
 rw[Qp]
 cases PQ d ps with
 | none=>rfl
 | some p=>simp
theorem iU (d:Nat) (ps:List (Nat×V)) (z:V):Wd (rG enc d ps) (enc z)=enc ((Dr d ps).getD z):=by
 unfold rG Dr
 cases PQ d ps <;> rfl
theorem iV (d : Nat) (v : V) : ∀ ps : List (Nat × V), (pT d v ps).length = (match PQ d ps with | none => ps.length + 1 | some _ => ps.length)
 | []=>rfl
 | (k, c) :: r => by
  show (bif Nat.beq d k then (k,v)::r else (k,c)::pT d v r).length=(match (bif Nat.beq d k then some (0,c) else (PQ d r).map λp=>(p.1+1,p.2)) with | none=>r.length+1+1 | some _=>r.length+1)
  cases Nat.beq d k with
  | true=>rfl
  | false =>
   show (pT d v r).length+1=(match (PQ d r).map λp=>(p.1+1,p.2) with | none=>r.length+1+1 | some _=>r.length+1)
   rw[iV d v r]
   cases PQ d r <;> rfl
theorem XJ (d : Nat) (v : V) : ∀ (ps : List (Nat × V)) (i : Nat), Iq enc (pT d v ps) i = (match PQ d ps with | none => Iq enc ps i ++ [⟨IV (Int.ofNat d), enc v, i + ps.length⟩] | some p => SS (fun e => ⟨IV (Int.ofNat d), enc v, e.born⟩) p.1 (Iq enc ps i))
 | [],i=>by show [(⟨IV (Int.ofNat d),enc v,i⟩:EO)]=[]++[⟨_,_,i+0⟩];simp
 | (k, c) :: r, i => by
  show Iq enc (bif Nat.beq d k then (k,v)::r else (k,c)::pT d v r) i=(match (bif Nat.beq d k then some (0,c) else (PQ d r).map λp=>(p.1+1,p.2)) with | none=>Iq enc ((k,c)::r) i++[⟨IV (Int.ofNat d),enc v,i+(r.length+1)⟩] | some p=>SS (λe=>⟨IV (Int.ofNat d),enc v,e.born⟩) p.1 (Iq enc ((k,c)::r) i))
  cases hb:Nat.beq d k with
  | true =>
   obtain rfl:=Nat.eq_of_beq_eq_true hb
   rfl
  | false =>
   show (⟨IV (Int.ofNat k),enc c,i⟩:EO)::Iq enc (pT d v r) (i+1)=(match (PQ d r).map λp=>(p.1+1,p.2) with | none=>Iq enc ((k,c)::r) i++[⟨IV (Int.ofNat d),enc v,i+(r.length+1)⟩] | some p=>SS (λe=>⟨IV (Int.ofNat d),enc v,e.born⟩) p.1 (Iq enc ((k,c)::r) i))
   rw[XJ d v r (i+1)]
   cases PQ d r with
   | none =>
    show _::(Iq enc r (i+1)++[(⟨_,_,i+1+r.length⟩:EO)])=(_::Iq enc r (i+1))++[⟨_,_,i+(r.length+1)⟩]
    rw[show i+1+r.length=i+(r.length+1) by omega];rfl
   | some p=>rfl
theorem Sa (d:Nat) (v:V) (ps:List (Nat×V)):Gr (IV (Int.ofNat d)) (enc v) ps.length (eG enc ps) (rG enc d ps)=eG enc (pT d v ps)∧Ja ps.length (rG enc d ps)=(pT d v ps).length:=by
 have h1:=XJ enc d v ps 0
 have h2:=iV d v ps
 unfold eG rG Gr Ja
 cases hp:PQ d ps with
 | none =>
  rw[hp] at h1 h2
  have h1:Iq enc (pT d v ps) 0=Iq enc ps 0++[⟨IV (Int.ofNat d),enc v,0+ps.length⟩]:=h1
  have h2:(pT d v ps).length=ps.length+1:=h2
  constructor
  ·show Br (Iq enc ps 0) [⟨IV (Int.ofNat d),enc v,ps.length⟩]=_
   rw[h1,BH,Nat.zero_add]
  ·show ps.length+1=_
   rw[h2]
 | some p =>
  rw[hp] at h1 h2
  exact⟨h1.symm,h2.symm⟩
theorem OL (e:EO) (post:List EO):∀ (pre:List EO) (j:Nat),(∀ x∈pre,x.born≠e.born)→U2 e.born (pre++e::post) j=some (j+pre.length)
 | [], j, _ => by
  show bb (Nat.beq e.born e.born) (some j) _=_
  rw[Nat.beq_refl,Ak];rfl
 | x :: pre, j, h => by
  show bb (Nat.beq x.born e.born) (some j) (U2 e.born (pre++e::post) (j+1))=_
  have:Nat.beq x.born e.born=false:=by
   cases hb:Nat.beq x.born e.born with
   | false=>rfl
   | true=>exact absurd (Nat.eq_of_beq_eq_true hb) (h x (by simp))
  rw[this,AA,OL e post pre (j+1) (λy hy=>h y (by simp[hy]))]
  simp;omega
theorem Sb:∀ (ps:List (Nat×V)) (i:Nat),∀ e∈Iq enc ps i,i≤e.born∧e.born < i+ps.length
 | [],_,e,h=>by cases h
 | (k, v) :: r, i, e, h => by
  rcases List.mem_cons.1 h with rfl | h
  ·exact⟨Nat.le_refl _,by simp⟩
  ·have:=Sb r (i+1) e h
   simp;omega
theorem XK (d:Nat):∀ (ps:List (Nat×V)) (i j:Nat) (v:V),PQ d ps=some (j,v)→∃ pre post,Iq enc ps i=pre++⟨IV (Int.ofNat d),enc v,i+j⟩::post∧pre.length=j∧∀ x∈pre,x.born < i+j
 | [],_,_,_,h=>by cases h
 | (k, c) :: r, i, j, v, h => by
  have h:(bif Nat.beq d k then some (0,c) else (PQ d r).map λp=>(p.1+1,p.2))=some (j,v):=h
  cases hb:Nat.beq d k with
  | true =>
   rw[hb,cond_true] at h
   injection h with h;injection h with h1 h2
   subst h1;subst h2
   obtain rfl:=Nat.eq_of_beq_eq_true hb
   exact⟨[],Iq enc r (i+1),rfl,rfl,by simp⟩
  | false =>
   rw[hb,cond_false] at h
   cases hp:PQ d r with
   | none=>rw[hp] at h;cases h
   | some p =>
    rw[hp] at h
    injection h with h;injection h with h1 h2
    obtain⟨j',v'⟩:=p
    have h1:j'+1=j:=h1
    have h2:v'=v:=h2
    subst h1;subst h2
    obtain⟨pre,post,e1,e2,e3⟩:=XK d r (i+1) j' v' hp
    refine⟨⟨IV (Int.ofNat k),enc c,i⟩::pre,post,?_,by simp[e2],?_⟩
    ·show (⟨IV (Int.ofNat k),enc c,i⟩:EO)::Iq enc r (i+1)=_
     rw[e1,show i+1+j'=i+(j'+1) by omega];rfl
    ·intro x hx
     rcases List.mem_cons.1 hx with rfl | hx
     ·show i < i+(j'+1);omega
     ·have:=e3 x hx;omega
theorem Nf (f:EO→EO) (e:EO) (post:List EO):∀ (pre:List EO),SS f pre.length (pre++e::post)=pre++f e::post
 | []=>rfl
 | x :: pre => by
  show x::SS f pre.length (pre++e::post)=_
  rw[Nf f e post pre];rfl
theorem Acu (d:Nat) (z v:V) (ps:List (Nat×V)):∃ j,U2 (Sr ps.length (eG enc ps) (rG enc d ps)) (LP (IV (Int.ofNat d)) (enc z) ps.length (eG enc ps) (rG enc d ps)) 0=some j ∧
 QH (enc v) j (LP (IV (Int.ofNat d)) (enc z) ps.length (eG enc ps) (rG enc d ps))=eG enc (pT d v ps):=by
 have h1:=(Sa enc d v ps).1
 cases hp:PQ d ps with
 | none =>
  have hr:rG enc d ps=none:=by unfold rG;rw[hp];rfl
  rw[hr] at h1 ⊢
  have h1:Br (eG enc ps) [⟨IV (Int.ofNat d),enc v,ps.length⟩]=eG enc (pT d v ps):=h1
  rw[BH] at h1
  refine⟨(eG enc ps).length,?_,?_⟩
  ·show U2 ps.length (Br (eG enc ps) [⟨IV (Int.ofNat d),enc z,ps.length⟩]) 0=_
   rw[BH]
   have:=OL (⟨IV (Int.ofNat d),enc z,ps.length⟩:EO) [] (eG enc ps) 0 (fun x hx=>by
    have:=Sb enc ps 0 x hx
    show x.born≠ps.length;omega)
   rw[Nat.zero_add] at this;exact this
  ·show SS (λe=>⟨e.key,enc v,e.born⟩) (eG enc ps).length (Br (eG enc ps) [⟨IV (Int.ofNat d),enc z,ps.length⟩])=_
   rw[BH,Nf,←h1]
 | some p =>
  obtain⟨j,c⟩:=p
  have hr:rG enc d ps=some (j,enc c):=by unfold rG;rw[hp];rfl
  rw[hr] at h1 ⊢
  have h1:SS (λe=>⟨IV (Int.ofNat d),enc v,e.born⟩) j (eG enc ps)=eG enc (pT d v ps):=h1
  obtain⟨pre,post,e1,e2,e3⟩:=XK enc d ps 0 j c hp
  have e1:eG enc ps=pre++⟨IV (Int.ofNat d),enc c,0+j⟩::post:=e1
  rw[Nat.zero_add] at e1
  have en:LP (IV (Int.ofNat d)) (enc z) ps.length (eG enc ps) (some (j,enc c))=pre++⟨IV (Int.ofNat d),enc c,j⟩::post:=by
   show SS (λe=>⟨IV (Int.ofNat d),e.val,e.born⟩) j (eG enc ps)=_
   rw[e1,←e2,Nf]
  have hb:Sr ps.length (eG enc ps) (some (j,enc c))=j:=by
   show oo (AL (eG enc ps) j) 0 (λe=>e.born)=j
   have:AL (eG enc ps) j=some (⟨IV (Int.ofNat d),enc c,j⟩:EO):=by
    rw[BZ,e1,List.getElem?_append_right (by omega),←e2,Nat.sub_self];rfl
   rw[this];rfl
  refine⟨j,?_,?_⟩
  ·rw[hb,en]
   have:=OL (⟨IV (Int.ofNat d),enc c,j⟩:EO) post pre 0 (fun x hx=>by
    have:=e3 x hx
    show x.born≠j;omega)
   rw[Nat.zero_add,e2] at this;exact this
  ·rw[en,←h1,e1]
   show SS (λe:EO=>(⟨e.key,enc v,e.born⟩:EO)) j (pre++(⟨IV (Int.ofNat d),enc c,j⟩:EO)::post)=_
   rw[←e2,Nf,Nf]
theorem ZP (d k:Nat) (v:V):∀ ps:List (Nat×V),Dr k (pT d v ps)=if k=d then some v else Dr k ps
 | [] => by
  show Option.map _ (bif Nat.beq k d then some (0,v) else Option.map _ none)=_
  by_cases h:k=d
  ·subst h;rw[Nat.beq_refl,if_pos rfl];rfl
  ·rw[if_neg h]
   cases hb:Nat.beq k d with
   | true=>exact absurd (Nat.eq_of_beq_eq_true hb) h
   | false=>rfl
 | (q, c) :: r => by
  have ih:=ZP d k v r
  unfold Dr at ih ⊢
  show Option.map _ (PQ k (bif Nat.beq d q then (q,v)::r else (q,c)::pT d v r))=if k=d then some v else Option.map _ (bif Nat.beq k q then some (0,c) else (PQ k r).map λp=>(p.1+1,p.2))
  have two:∀ (b:Bool) (c:V) (o:Option (Nat×V)),Option.map (·.2) (bif b then some (0,c) else o.map fun p=>(p.1+1,p.2))=bif b then some c else Option.map (·.2) o:=by
   intro b c o;cases b <;> cases o <;> rfl
  cases hb:Nat.beq d q with
  | true =>
   obtain rfl:=Nat.eq_of_beq_eq_true hb
   show Option.map (·.2) (bif Nat.beq k d then some (0,v) else (PQ k r).map λp=>(p.1+1,p.2))=_
   rw[two,two]
   by_cases h:k=d
   ·subst h;rw[Nat.beq_refl,if_pos rfl];rfl
   ·rw[if_neg h]
    cases hk:Nat.beq k d with
    | true=>exact absurd (Nat.eq_of_beq_eq_true hk) h
    | false=>rfl
  | false =>
   show Option.map (·.2) (bif Nat.beq k q then some (0,c) else (PQ k (pT d v r)).map λp=>(p.1+1,p.2))=_
   rw[two,two,ih]
   cases hk:Nat.beq k q with
   | false=>rfl
   | true =>
    obtain rfl:=Nat.eq_of_beq_eq_true hk
    have hne:¬ k=d:=λh=>by rw[h,Nat.beq_refl] at hb;cases hb
    simp only[if_neg hne]
end Go.MdM
set_option maxRecDepth 100000
set_option maxHeartbeats 4000000
namespace Go.MnSM
open Go.Sp Go.MnS Go.MdM
section
variable (pu:Af) (m:Nat) (A B:List (List Nat)) (hAB:A.length=B.length)
theorem Acv (ih0:Sl→Sl→Int→Int→Option Value) (z:Int) (i:Nat) (hi:i < A.length) (hi':i < B.length) (hA:A[i].length < 1000):∀ (f k:Nat),A[i].length - k < f→k≤A[i].length→k≤B[i].length →
 RU pu m ih0 f (LL 0 A) (LL 0 B) (Int.ofNat i) z (Int.ofNat i) (Int.ofNat A[i].length) (Int.ofNat k)=match cmp (A[i].drop k) (B[i].drop k) with | none=>Ub pu m ih0 (LL 0 A) (LL 0 B) z (Int.ofNat i) | some b=>some (.bool b):=by
 intro f
 induction f with
 | zero=>intro k h;omega
 | succ f ih =>
  intro k h hk hkB
  show WS pu m ih0 (RU pu m ih0 f) _ _ _ _ _ _ _=_
  unfold WS
  by_cases h1:k < A[i].length
  ·have d1:A[i].drop k=A[i][k]::A[i].drop (k+1):=List.drop_eq_getElem_cons h1
   rw[FM h1,Ak,d1]
   simp only[Cx,Ac,LL,blt_eq,hi,hi',decide_true,CF,Bool.true_and,Ak,BZ,Nat.mul_one,PO A i hi,PO B i hi',O1,I4,Gp]
   by_cases h2:k < B[i].length
   ·have d2:B[i].drop k=B[i][k]::B[i].drop (k+1):=List.drop_eq_getElem_cons h2
    have q:Bd (Int.ofNat k) (Int.ofNat B[i].length)=false:=by simp[Lr];omega
    rw[d2,q]
    simp only[AA,GX,h1,h2,decide_true,O0 A[i] k h1,O0 B[i] k h2,Ac,Ak,BP]
    unfold cmp
    by_cases hc:A[i][k]=B[i][k]
    ·have:nt (Bd (Int.ofNat A[i][k]) (Int.ofNat B[i][k]))=false:=by simp[Lr,hc]
     rw[this,AA,if_pos hc,DC k (by omega)]
     exact ih (k+1) (by omega) (by omega) (by omega)
    ·have:nt (Bd (Int.ofNat A[i][k]) (Int.ofNat B[i][k]))=true:=by simp[Lr];omega
     rw[this,Ak,if_neg hc]
     simp only[Bool.and_self,Ak,JY]
     show some (Value.bool _)=some (Value.bool _)
     congr 2
     rw[decide_eq_decide];simp
   ·have hB:B[i].length=k:=by omega
    have q:Bd (Int.ofNat k) (Int.ofNat B[i].length)=true:=by simp[Lr];omega
    rw[q,Ak,List.drop_of_length_le (by omega:B[i].length≤k)];rfl
  ·have hA':A[i].length=k:=by omega
   rw[FL h1,AA]
   unfold Zw
   simp only[Cx,Ac,LL,blt_eq,hi,hi',decide_true,CF,Bool.true_and,Ak,BZ,Nat.mul_one,PO A i hi,PO B i hi',O1,I4,Gp]
   rw[List.drop_of_length_le (by omega:A[i].length≤k)]
   by_cases h2:k < B[i].length
   ·have d2:B[i].drop k=B[i][k]::B[i].drop (k+1):=List.drop_eq_getElem_cons h2
    rw[d2,show AY (Int.ofNat A[i].length) (Int.ofNat B[i].length)=true from FM (by omega)]
    rfl
   ·rw[show AY (Int.ofNat A[i].length) (Int.ofNat B[i].length)=false from FL (by omega),List.drop_of_length_le (by omega:B[i].length≤k)]
    rfl
include hAB
theorem l61 (hA:∀ r∈A,r.length < 1000) (hAl:A.length < 1000):∀ (f i:Nat),A.length - i < f→i≤A.length→∃ b,K9 pu 1000000 f (LL 0 A) (LL 0 B) (Int.ofNat A.length) (Int.ofNat i)=some (.bool b)∧(b=true↔mD (A.drop i) (B.drop i)):=by
 intro f
 induction f with
 | zero=>intro i h;omega
 | succ f ih =>
  intro i h hi
  show ∃ b,WT pu 1000000 (K9 pu 1000000 f) _ _ _ _=_∧_
  unfold WT
  by_cases hlt:i < A.length
  ·have d1:A.drop i=A[i]::A.drop (i+1):=List.drop_eq_getElem_cons hlt
   have d2:B.drop i=B[i]::B.drop (i+1):=List.drop_eq_getElem_cons (by omega)
   rw[FM hlt,Ak,d1,d2]
   have hl:=hA _ (List.getElem_mem hlt)
   have e:=Acv pu 1000000 A B (K9 pu 1000000 f) (Int.ofNat A.length) i hlt (by omega) hl 1000000 0 (by omega) (by omega) (by omega)
   rw[List.drop_zero,List.drop_zero] at e
   have e0 : (oo (EA (Int.ofNat i)) none fun k => bb (an (Nat.blt k (LL 0 A).n) true) (oo (AL (LL 0 A).cs (k * 1)) none fun v => oo (Bj 1 v) none fun s => RU pu 1000000 (K9 pu 1000000 f) 1000000 (LL 0 A) (LL 0 B) (Int.ofNat k) (Int.ofNat A.length) (Int.ofNat k) (Int.ofNat s.n) 0) none) =
    RU pu 1000000 (K9 pu 1000000 f) 1000000 (LL 0 A) (LL 0 B) (Int.ofNat i) (Int.ofNat A.length) (Int.ofNat i) (Int.ofNat A[i].length) (Int.ofNat 0):=by
    have g1:an (Nat.blt i (LL 0 A).n) true=true:=by rw[CF,Bool.and_true,blt_eq];exact decide_eq_true hlt
    have g2:AL (LL 0 A).cs (i*1)=some (Sl.v 1 (sl 0 (nI A[i]))):=by rw[BZ,Nat.mul_one];exact PO A i hlt
    rw[Cx,Ac,g1,Ak,g2,Ac,O1,Ac,I4,Gp];rfl
   rw[e0,e]
   cases hc:cmp A[i] B[i] with
   | none =>
    have he:=Xf _ _ hc
    obtain⟨b,e1,e2⟩:=ih (i+1) (by omega) (by omega)
    refine⟨b,?_,e2.trans ?_⟩
    ·show Ub pu 1000000 _ _ _ _ _=_
     unfold Ub
     rw[DC i (by omega)];exact e1
    ·rw[he]
     show _↔bX B[i] B[i]∨(B[i]=B[i]∧_)
     simp[Qz]
   | some v =>
    obtain⟨h1,h2⟩:=Xg _ _ _ hc
    refine⟨v,rfl,h2.trans ?_⟩
    show _↔bX A[i] B[i]∨(A[i]=B[i]∧_)
    simp[h1]
  ·rw[FL hlt,AA]
   refine⟨false,rfl,?_⟩
   rw[List.drop_of_length_le (by omega),List.drop_of_length_le (by omega)]
   simp[mD]
end
theorem p61 (n:Nat) (A B:List (List Nat)) (hAB:A.length=B.length) (hA:∀ r∈A,r.length < 1000) (hAl:A.length < 1000):∃ b,FK (n+1) 61 [Sl.v 1 (LL 0 A),Sl.v 1 (LL 0 B)]=some (.bool b)∧(b=true↔mD A B):=by
 obtain⟨b,e,h⟩:=l61 (FK n) A B hAB hA hAl 1000000 0 (by omega) (by omega)
 refine⟨b,?_,h⟩
 refine Eq.trans (b:=Abz (FK n) 1000000 (LL 0 A) (LL 0 B)) (by kernel_rfl) ?_
 exact e
theorem Acw {N:Nat} {H W:Nat→Int} {S0:Bn} {s:Nat→Nat} (hv:BO N H W S0 s) {k:Nat} (hk:N < k) {met:List Nat} (hm:∀ i,i < N→S0 i=true→(s i∈met↔i∈met)) {p:Nat} (p1:p < N) (p2:S0 p=true) (hc:p ∉ met) :
 ∀ i,i < N→S0 i=true→(s i∈met++Oy s k [] p↔i∈met++Oy s k [] p):=by
 obtain⟨k',rfl⟩:∃ k',k=k'+1:=⟨k - 1,by omega⟩
 have hcc:card N (MdM.rem S0 (met++[p])) < k':=by
  have hx:MdM.rem S0 met p=true:=Gu.2 ⟨p2,hc⟩
  have:=Gn p1 hx
  have h2:card N (MdM.rem S0 met)≤N:=by
   unfold card
   have:=List.countP_le_length (p:=MdM.rem S0 met) (l:=List.range N)
   simpa using this
  rw[LW,HV,Jv]
  omega
 obtain ⟨e, e1, e2, e3, e4⟩ := ZE hv hm (p := p) k' [p] p hcc (by simp) (by simp) (by intro x hx; rw [List.mem_singleton.1 hx]; exact ⟨p1, p2, hc⟩)
  (by intro x hx hne;exact absurd (List.mem_singleton.1 hx) hne) (by intro y hy hne;exact absurd (List.mem_singleton.1 hy) hne)
 have horb:Oy s (k'+1) [] p=p::e:=by
  unfold Oy
  simpa using e1
 rw[LW,HV,Jv] at e2
 have hpe:∀ x∈p::e,x < N∧S0 x=true:=by
  intro x hx
  rcases List.mem_cons.1 hx with rfl | hx
  ·exact⟨p1,p2⟩
  ·have:=Jc e _ _ e2 x hx
   refine⟨this.1,?_⟩
   have:=this.2
   simp[MdM.rem,del] at this;exact this.1.1
 have hnd:(p::e).Nodup:=by
  rw[List.nodup_cons]
  refine⟨λh=>?_,Kb e _ _ e2⟩
  have:=(Jc e _ _ e2 p h).2
  simp[del] at this
 have hcl:=PM hv (p::e) hnd hpe (by simpa using e4)
 rw[horb]
 intro i hi hsi
 have h1:=hm i hi hsi
 have h2:=hcl i hi hsi
 have h3:i∈p::e→s i∈p::e:=λh=>by simpa using e4 i (by simpa using h)
 simp only[List.mem_append]
 constructor
 ·rintro(h | h)
  ·exact .inl (h1.1 h)
  ·exact .inr (h2 h)
 ·rintro(h | h)
  ·exact .inl (h1.2 h)
  ·exact .inr (h3 h)
end Go.MnSM
set_option maxRecDepth 100000
set_option maxHeartbeats 4000000
namespace Go.MnSM
open Go Go.Sp Go.MnS Go.MdM Go.RgP
abbrev bV:Bool→Value:=λb=>.bool b
abbrev nV:Nat→Value:=λn=>IV (Int.ofNat n)
theorem HY (ps:List (Nat×Bool)):Au F4 (eG bV ps)=true:=Ul bV (λ_=>rfl) ps
theorem Jj (ps:List (Nat×Nat)):Au F4 (eG nV ps)=true:=Ul nV (λ_=>rfl) ps
abbrev PTv (i:Nat):Value:=.pointer (some ⟨i,0,none⟩)
def FNv:Value:=.agg ⟨[.func (.func 60) ⟨[]⟩ ⟨[PTv 1,PTv 2,PTv 3,PTv 4,PTv 5,PTv 6]⟩]⟩
section
variable (f1 f2:Nat) (K:Int) (h w:List Int) (s0:Nat)
noncomputable def OBS (b:Sl) (u:List (Nat×Bool)) (x:List (Nat×Nat)):List Value:=
 [.agg ⟨[Sl.v 1 (sl 0 (nI (PL h s0)))]⟩,.agg ⟨[.map (some 7)]⟩,.agg ⟨[.int .i64 K,Sl.v 1 (sl f1 h),Sl.v 1 (sl f2 w)]⟩,.agg ⟨[.map (some 8)]⟩,FNv,.agg ⟨[Sl.v 1 b]⟩,Ef (.map (eG bV u) u.length),Ef (.map (eG nV x) x.length)]
noncomputable def oK (b:Sl) (u:List (Nat×Bool)) (x:List (Nat×Nat)):Option Value:=some (.tuple ⟨.tuple ⟨[]⟩::OBS f1 f2 K h w s0 b u x⟩)
theorem XL (pu:Af) (n:Nat) (b l:Sl) (c:Bool) (u:List (Nat×Bool)) (x:List (Nat×Nat)):Jf pu n l c (sl 0 (nI (PL h s0))) K (sl f1 h) (sl f2 w) b (eG bV u) u.length (eG nV x) x.length=oK f1 f2 K h w s0 (bb c l b) u x:=by
 unfold Jf
 rw[HY,Jj]
 cases c <;> rfl
theorem iW (pu:Af) (n:Nat) (b:Sl) (u:List (Nat×Bool)) (x:List (Nat×Nat)):MH pu n (sl 0 (nI (PL h s0))) K (sl f1 h) (sl f2 w) b (eG bV u) u.length (eG nV x) x.length=oK f1 f2 K h w s0 b u x:=by
 unfold MH
 rw[HY,Jj];rfl
variable (s:Nat→Nat) (hv:BO h.length (fn h) (fn w) (tb s0) s) (hN:h.length≤10)
variable (pu:Af) (b:Sl) (u:List (Nat×Bool)) (x:List (Nat×Nat)) (hx:∀ p∈PL h s0,Dr p x=some (s p))
def Dy (m:List (Nat×Bool)) (M:List Nat):Prop:=∀ q,(Dr q m).getD false=M.contains q
theorem Yg (q:Nat) (m:List (Nat×Bool)):Wd (rG bV q m) (.bool false) = .bool ((Dr q m).getD false):=iU bV q m false
theorem iX (q:Nat) (m:List (Nat×Nat)):Wd (rG nV q m) (.int .i64 (0:Int))=IV (Int.ofNat ((Dr q m).getD 0)):=iU nV q m 0
theorem iY {m:List (Nat×Bool)} {M:List Nat} (hm:Dy m M) (z:Nat):Dy (pT z true m) (M++[z]):=by
 intro q
 rw[ZP,Bool.eq_iff_iff,Gt]
 by_cases e:q=z
 ·rw[if_pos e,e];simp
 ·rw[if_neg e,hm q,Gt];simp[e]
include hv hN hx
theorem cO (ih0:Nat→Nat→Sl→Int→Int→Sl→Int→Sl→Sl→Sl→List EO→Nat→List EO→Nat→List Value→List EO→Nat→Option Value) (zi:Int) (L:List (List Nat)) (M:List Nat) (hM:∀ i,i < h.length→tb s0 i=true→(s i∈M↔i∈M)) :
 ∀ (f k : Nat) (ring : List Nat) (z : Nat) (m : List (Nat × Bool)), (PL h s0).length - ring.length < f → (PL h s0).length - ring.length < k → z ∈ PL h s0 → z ∉ M → ring.Nodup → (∀ y ∈ ring, y ∈ PL h s0) → Dy m (M ++ ring) →
  ∃ m', Dy m' (M ++ Oy s k ring z) ∧ Jg pu 1000000 ih0 f L.length (2 * L.length) (Int.ofNat z) ring.length (2 * ring.length) (sl 0 (nI (PL h s0))) (Int.ofNat (PL h s0).length) zi (sl 0 (nI (PL h s0))) K (sl f1 h) (sl f2 w) b (eG bV u) u.length (eG nV x) x.length (L.map rv) (eG bV m) m.length ((nI ring).map I) =
   KT pu 1000000 ih0 L.length (2*L.length) (Oy s k ring z).length (2*(Oy s k ring z).length) (sl 0 (nI (PL h s0))) (Int.ofNat (PL h s0).length) zi (sl 0 (nI (PL h s0))) K (sl f1 h) (sl f2 w) b (eG bV u) u.length (eG nV x) x.length (L.map rv) (eG bV m') m'.length ((nI (Oy s k ring z)).map I):=by
 intro f
 have h10:=cK h s0 hN
 induction f with
 | zero=>intro k ring z m h;omega
 | succ f ih =>
  intro k ring z m hf hk hz hzM hn hr hm
  obtain⟨k,rfl⟩:∃ k',k=k'+1:=⟨k - 1,by omega⟩
  have e1:Jg pu 1000000 ih0 (f+1)=JP pu 1000000 ih0 (Jg pu 1000000 ih0 f):=rfl
  rw[e1]
  have hlen:=OH ring (PL h s0) hn hr
  obtain⟨z1,z2⟩:=Fh.1 hz
  have hc:(M++ring).contains z=ring.contains z:=by
   rw[Bool.eq_iff_iff,Gt,Gt,List.mem_append]
   exact⟨λc=>c.resolve_left hzM,.inr⟩
  have e2 : ∀ ih1, JP pu 1000000 ih0 ih1 L.length (2 * L.length) (Int.ofNat z) ring.length (2 * ring.length) (sl 0 (nI (PL h s0))) (Int.ofNat (PL h s0).length) zi (sl 0 (nI (PL h s0))) K (sl f1 h) (sl f2 w) b (eG bV u) u.length (eG nV x) x.length (L.map rv) (eG bV m) m.length ((nI ring).map I) =
   bb (nt (ring.contains z)) (ih1 L.length (2 * L.length) (Int.ofNat (s z)) (ring.length + 1) (2 * (ring.length + 1) + bb false 1 0) (sl 0 (nI (PL h s0))) (Int.ofNat (PL h s0).length) zi (sl 0 (nI (PL h s0))) K (sl f1 h) (sl f2 w) b (eG bV u) u.length (eG nV x) x.length (L.map rv) (eG bV (pT z true m)) (pT z true m).length ((nI (ring ++ [z])).map I))
    (KT pu 1000000 ih0 L.length (2*L.length) ring.length (2*ring.length) (sl 0 (nI (PL h s0))) (Int.ofNat (PL h s0).length) zi (sl 0 (nI (PL h s0))) K (sl f1 h) (sl f2 w) b (eG bV u) u.length (eG nV x) x.length (L.map rv) (eG bV m) m.length ((nI ring).map I)):=by
   intro ih1
   unfold JP
   have fm:=Oz bV z m
   have fx:=Oz nV z x
   have gm:=Yg z m
   rw[hm z,hc] at gm
   have gx:=iX z x
   rw[hx z hz,Option.getD_some] at gx
   obtain⟨u1,u2⟩:=Sa bV z true m
   have hg:=Uj 1 8 ring.length 1 ((nI ring).map I) (Pj (by omega) (by omega)) (by omega) (by rw[List.length_map,Gp,Nat.mul_one])
   rw[fm,Ac,gm,BU,Ac,HY,Ak,Jj,Ak,cB,Ak,HY,Ak,sS,Ak,Ac,u1,u2,HY,Ak,hg,Ak,sU,sS,Ak,fx,Ac,gx,BP,Ac]
  rw[e2]
  by_cases hc2:ring.contains z=true
  ·refine⟨m,?_,?_⟩
   ·unfold Oy;rw[hc2];exact hm
   ·unfold Oy;rw[hc2];rfl
  ·rw[Bool.not_eq_true] at hc2
   have hz':z ∉ ring:=(G5 ring z).1 hc2
   have hn':(ring++[z]).Nodup:=List.nodup_append.2 ⟨hn,by simp,by simp;exact λa ha e=>hz' (e ▸ ha)⟩
   have hr':∀ y∈ring++[z],y∈PL h s0:=by
    intro y hy
    rcases List.mem_append.1 hy with hy | hy
    ·exact hr y hy
    ·rw[List.mem_singleton.1 hy];exact hz
   have hlen':=OH (ring++[z]) (PL h s0) hn' hr'
   rw[List.length_append,List.length_singleton] at hlen'
   obtain⟨v1,v2,_⟩:=hv.1 z z1 z2
   obtain⟨m',a1,a2⟩:=ih k (ring++[z]) (s z) (pT z true m) (by rw[List.length_append,List.length_singleton];omega) (by rw[List.length_append,List.length_singleton];omega) (Fh.2 ⟨v1,v2⟩) (λc=>hzM ((hM z z1 z2).1 c)) hn' hr' (by rw[←List.append_assoc];exact iY hm z)
   refine⟨m',?_,?_⟩
   ·unfold Oy;rw[hc2];exact a1
   ·unfold Oy;rw[hc2]
    rw[List.length_append,List.length_singleton] at a2
    exact a2
theorem iZ:∀ (f i:Nat) (L:List (List Nat)) (M:List Nat) (m:List (Nat×Bool)),(PL h s0).length - i < f→i≤(PL h s0).length→L.length≤i→M.length≤10*i→(∀ i,i < h.length→tb s0 i=true→(s i∈M↔i∈M))→Dy m M →
 Gy pu 1000000 f L.length (2 * L.length) (sl 0 (nI (PL h s0))) (Int.ofNat (PL h s0).length) (Int.ofNat i) (sl 0 (nI (PL h s0))) K (sl f1 h) (sl f2 w) b (eG bV u) u.length (eG nV x) x.length (L.map rv) (eG bV m) m.length =
  KJ pu 1000000 (L++nl s 11 ((PL h s0).drop i) M).length (2*(L++nl s 11 ((PL h s0).drop i) M).length) (sl 0 (nI (PL h s0))) K (sl f1 h) (sl f2 w) b (eG bV u) u.length (eG nV x) x.length ((L++nl s 11 ((PL h s0).drop i) M).map rv):=by
 intro f
 have h10:=cK h s0 hN
 induction f with
 | zero=>intro i L M m hf;omega
 | succ f ih =>
  intro i L M m hf hi hL hMl hM hm
  have e1:Gy pu 1000000 (f+1)=MG pu 1000000 (Gy pu 1000000 f):=rfl
  rw[e1]
  unfold MG
  rw[HY,Ak,Jj,Ak,cB,Ak,HY,Ak]
  have next : ∀ (L' : List (List Nat)) (M' : List Nat) (m' : List (Nat × Bool)), L'.length ≤ i + 1 → M'.length ≤ 10 * (i + 1) → (∀ i, i < h.length → tb s0 i = true → (s i ∈ M' ↔ i ∈ M')) → Dy m' M' →
   KS pu 1000000 (Gy pu 1000000 f) L'.length (2 * L'.length) (sl 0 (nI (PL h s0))) (Int.ofNat (PL h s0).length) (Int.ofNat i) (sl 0 (nI (PL h s0))) K (sl f1 h) (sl f2 w) b (eG bV u) u.length (eG nV x) x.length (L'.map rv) (eG bV m') m'.length =
    Gy pu 1000000 f L'.length (2*L'.length) (sl 0 (nI (PL h s0))) (Int.ofNat (PL h s0).length) (Int.ofNat (i+1)) (sl 0 (nI (PL h s0))) K (sl f1 h) (sl f2 w) b (eG bV u) u.length (eG nV x) x.length (L'.map rv) (eG bV m') m'.length:=by
   intro L' M' m' _ _ _ _
   unfold KS
   rw[HY,Ak,Jj,Ak,cB,Ak,HY,Ak,DC i (by omega)]
  by_cases hlt:i < (PL h s0).length
  ·have e:(PL h s0).drop i=(PL h s0)[i]::(PL h s0).drop (i+1):=List.drop_eq_getElem_cons hlt
   obtain⟨p1,p2⟩:=Xh h s0 hlt
   rw[FM hlt,e]
   simp only[Ak,Cx,Ac,I4,GX,Gp,blt_eq,hlt,decide_true,CF,Bool.true_and,BZ,Nat.mul_one,O0 (PL h s0) i hlt,BP]
   unfold nl
   by_cases hmm:M.contains (PL h s0)[i]=true
   ·-- met before
    rw[hmm,cond_true]
    have e2:Jg pu 1000000 (Gy pu 1000000 f) 1000000=JP pu 1000000 (Gy pu 1000000 f) (Jg pu 1000000 (Gy pu 1000000 f) 999999):=rfl
    rw[e2]
    unfold JP
    have fm:=Oz bV (PL h s0)[i] m
    have gm:=Yg (PL h s0)[i] m
    rw[hm _,hmm] at gm
    rw[fm,Ac,gm,BU,Ac,HY,Ak,Jj,Ak,cB,Ak,HY,Ak,show Au Ah ([]:List Value)=true from rfl,Ak,show nt true=false from rfl,AA]
    unfold KT
    rw[HY,Ak,Jj,Ak,cB,Ak,HY,Ak,show Au Ah ([]:List Value)=true from rfl,Ak,show AY (0:Int) (Int.ofNat 0)=false from rfl,AA,next L M m (by omega) (by omega) hM hm]
    exact ih (i+1) L M m (by omega) (by omega) (by omega) (by omega) hM hm
   ·rw[Bool.not_eq_true] at hmm
    have hnM:=(G5 M _).1 hmm
    rw[hmm,cond_false]
    obtain⟨m',a1,a2⟩:=cO f1 f2 K h w s0 s hv hN pu b u x hx (Gy pu 1000000 f) (Int.ofNat i) L M hM 1000000 11 [] (PL h s0)[i] m (by omega) (by simp;omega) (List.getElem_mem _) hnM (by simp) (by simp) (by rw[List.append_nil];exact hm)
    have a2':Jg pu 1000000 (Gy pu 1000000 f) 1000000 L.length (2*L.length) (Int.ofNat (PL h s0)[i]) 0 0 (sl 0 (nI (PL h s0))) (Int.ofNat (PL h s0).length) (Int.ofNat i) (sl 0 (nI (PL h s0))) K (sl f1 h) (sl f2 w) b (eG bV u) u.length (eG nV x) x.length (L.map rv) (eG bV m) m.length ([]:List Value)=_:=a2
    rw[a2']
    have hcl:=Acw hv (k:=11) (by omega) hM p1 p2 hnM
    have Un:(Oy s 11 [] (PL h s0)[i]).length≤(PL h s0).length∧Oy s 11 [] (PL h s0)[i]≠[]:=by
     have := iN (PL h s0) ((PL h s0).map s) s (by simp) (fun j hj => by simp) (by
      intro y hy
      obtain⟨q,hq,rfl⟩:=List.mem_map.1 hy
      obtain⟨q1,q2⟩:=Fh.1 hq
      obtain⟨v1,v2,_⟩:=hv.1 q q1 q2
      exact Fh.2 ⟨v1,v2⟩) 11 [] (PL h s0)[i] (List.getElem_mem _) (by simp) (by simp)
     exact⟨OH _ _ this.1 this.2,ZL s 11 [] _ (.inr (by omega))⟩
    generalize Oy s 11 [] (PL h s0)[i]=R at *
    obtain⟨hRl,hR0⟩:=Un
    have hR1:0 < R.length:=List.length_pos_iff.2 hR0
    unfold KT
    have g1:=Uj 1 24 L.length 1 (L.map rv) (Pj (by omega) (by omega)) (by omega) (by rw[List.length_map,Nat.mul_one])
    have sR:Sl.v 1 (Sl.mk R.length 0 ((nI R).map I))=S 0 (nI R):=by unfold S sl;rw[Gp]
    rw[HY,Ak,Jj,Ak,cB,Ak,HY,Ak,sS,Ak,show AY (0:Int) (Int.ofNat R.length)=true from FM hR1,Ak,Ye,Ak,g1,Ak,takeN,sR,sV,cB,Ak]
    have nx:=next (L++[R]) (M++R) m' (by simp;omega) (by simp;omega) hcl a1
    rw[List.length_append,List.length_singleton] at nx
    have nx':KS pu 1000000 (Gy pu 1000000 f) (L.length+1) (2*(L.length+1)+bb false 1 0) (sl 0 (nI (PL h s0))) (Int.ofNat (PL h s0).length) (Int.ofNat i) (sl 0 (nI (PL h s0))) K (sl f1 h) (sl f2 w) b (eG bV u) u.length (eG nV x) x.length ((L++[R]).map rv) (eG bV m') m'.length=_:=nx
    rw[nx']
    have:=ih (i+1) (L++[R]) (M++R) m' (by omega) (by omega) (by simp;omega) (by simp;omega) hcl a1
    rw[List.length_append,List.length_singleton] at this
    rw[this,List.append_assoc];rfl
  ·have:i=(PL h s0).length:=by omega
   subst this
   rw[FL hlt,AA,List.drop_length]
   unfold nl
   rw[List.append_nil]
end
end Go.MnSM
