/- The plain law of MendTrays, first part: checks. -/
import Derived.Test.YtlgmapibifphaaaDoorSpObj2x
import Derived.Test.YtlgmapibifphaaaDoorMdFPux
import Derived.KernelRfl

set_option maxRecDepth 100000
namespace Go.MdFM
open Go.Sp Go.MdF

theorem p52 (n:Nat) (a b c:Int):puN (n + 1) 52 [I a,I b,I c] = some (Value.bool (decide (a≤b) && decide (b≤c))):=by
 show bb (nt (ilt b a)) (some (Value.bool (nt (ilt c b)))) (some (Value.bool false)) = _
 by_cases h1:a≤b <;> by_cases h2:b≤c <;> simp [ilt_eq,h1,h2,show (b < a)↔¬ a≤b from by omega,show (c < b)↔¬ b≤c from by omega]
theorem p54 (n:Nat) (a b c:Int):puN (n + 1) 54 [I a,I b,I c] = some (Value.bool (decide (b≤a) && decide (a≤c))):=by
 show bb (nt (ilt a b)) (some (Value.bool (nt (ilt c a)))) (some (Value.bool false)) = _
 by_cases h1:b≤a <;> by_cases h2:a≤c <;> simp [ilt_eq,h1,h2,show (a < b)↔¬ b≤a from by omega,show (c < a)↔¬ a≤c from by omega]

theorem lt_true {a b:Nat} (h:a < b):ilt (Int.ofNat a) (Int.ofNat b) = true:=by simp [ilt_eq,h]
theorem lt_false {a b:Nat} (h:¬ a < b):ilt (Int.ofNat a) (Int.ofNat b) = false:=by simp [ilt_eq];omega

theorem l10690 (pu : PureF) (n fl : Nat) (l : List Int) (x : Int) (hl : l.length < 1000) : ∀ (w i z : Nat), l.length - i < w → i ≤ l.length → z ≤ i →
 l10690_1 pu n w (sl fl l) x (Int.ofNat z) (Int.ofNat i) = some (.tuple ⟨[I (Int.ofNat (z + (l.drop i).count x))]⟩):=by
 intro w
 induction w with
 | zero=>intro i z h;omega
 | succ w ih =>
  intro i z h hi hz
  show b10690_1 pu n (l10690_1 pu n w) _ _ _ _ = _
  unfold b10690_1
  by_cases hlt:i < l.length
  ·have e : l.drop i = l[i] :: l.drop (i + 1) := List.drop_eq_getElem_cons hlt
   rw [sl_n,lt_true hlt]
   simp only [bb_true,toN_mk,oo_some,sl_cs,blt_eq,hlt,decide_true,an_eq,Bool.true_and,nthL_eq,Nat.mul_one,getI l i hlt,toI_mk,m10690_2,wrapS i (by omega),wrapS z (by omega)]
   by_cases hx:l[i] = x
   ·have : ieq l[i] x = true := by simp [ieq_eq, hx]
    rw [this,bb_true,ih (i + 1) (z + 1) (by omega) (by omega) (by omega),e,hx,List.count_cons_self]
    rw [show z + 1 + (l.drop (i + 1)).count x = z + ((l.drop (i + 1)).count x + 1) by omega]
   ·have : ieq l[i] x = false := by simp [ieq_eq, hx]
    rw [this,bb_false,ih (i + 1) z (by omega) (by omega) (by omega),e,List.count_cons_of_ne hx]
  ·have hi : i = l.length := by omega
   rw [sl_n,lt_false hlt]
   simp [hi,m10690_0]
theorem p10690 (n fl:Nat) (l:List Int) (x:Int) (hl:l.length < 50):puN (n + 1) 10690 [S fl l,I x] = some (.tuple ⟨[I (Int.ofNat (l.count x))]⟩):=by
 refine Eq.trans (b:=l10690_1 (puN n) 1000000 1000000 (sl fl l) x (Int.ofNat 0) (Int.ofNat 0)) (by kernel_rfl) ?_
 rw [l10690 (puN n) 1000000 fl l x (by omega) 1000000 0 0 (by omega) (by omega) (by omega)]
 simp

noncomputable def ifp (p:Prop) (a b:Int):Int:=@ite _ p (Classical.propDecidable p) a b
theorem ifp_t {p:Prop} {a b:Int} (h:p):ifp p a b = a:=if_pos h
theorem ifp_f {p:Prop} {a b:Int} (h:¬ p):ifp p a b = b:=if_neg h
theorem ifp_congr {p q:Prop} (h:p↔q) (a b:Int):ifp p a b = ifp q a b:=by rw [propext h]

def inK (k:Int) (l:List Int):Prop:=∀ x ∈ l,0≤x∧x < k
def evn (K:Nat) (h w:List Int):Prop:=∀ x:Nat,x < K→h.count (x:Int) = w.count (x:Int)
noncomputable def chk (k:Int) (h w:List Int):Int:=
 ifp (1≤k∧k≤5) (ifp (h.length = 0) 4 (ifp (10 < h.length) 3 (ifp (w.length = h.length) (ifp (inK k h∧inK k w) (ifp (evn k.toNat h w) 0 17) 2) 5))) 1
def tr (fl fl':Nat) (k:Int) (h w:List Int):Value:=.agg ⟨[I k,S fl h,S fl' w]⟩

theorem l49b (n m fl fl' K : Nat) (h w : List Int) (hh : h.length < 50) (hw : w.length < 50) (hK : K ≤ 5) : ∀ (f j : Nat), K - j < f → j ≤ K →
 l49_2 (puN (n + 1)) m f (Int.ofNat j) (Int.ofNat K) (sl fl h) (sl fl' w) = some (I (ifp (∀ x:Nat,j≤x→x < K→h.count (x:Int) = w.count (x:Int)) 0 17)):=by
 intro f
 induction f with
 | zero=>intro j hj;omega
 | succ f ih =>
  intro j hj hjK
  show b49_2 (puN (n + 1)) m (l49_2 (puN (n + 1)) m f) _ _ _ _ = _
  unfold b49_2
  by_cases hlt:j < K
  ·rw [lt_true hlt]
   have e1:=p10690 n fl h (Int.ofNat j) hh
   have e2:=p10690 n fl' w (Int.ofNat j) hw
   unfold S at e1 e2
   simp only [bb_true,e1,e2,oo_some,vTup_mk,ll_cons,ll_nil,toI_mk,wrapS j (by omega)]
   by_cases hc:h.count (j:Int) = w.count (j:Int)
   ·have : nt (ieq (Int.ofNat (h.count (Int.ofNat j))) (Int.ofNat (w.count (Int.ofNat j)))) = false := by simp [ieq_eq, hc]
    rw [this,bb_false,ih (j + 1) (by omega) (by omega)]
    congr 2
    refine ifp_congr ⟨?_,?_⟩ _ _
    ·intro g x h1 h2
     by_cases hx:x = j
     ·subst hx;exact hc
     ·exact g x (by omega) h2
    ·intro g x h1 h2;exact g x (by omega) h2
   ·have : nt (ieq (Int.ofNat (h.count (Int.ofNat j))) (Int.ofNat (w.count (Int.ofNat j)))) = true := by
     simp [ieq_eq];omega
    rw [this,bb_true,ifp_f (fun g=>hc (g j (Nat.le_refl _) hlt))]
  ·rw [lt_false hlt]
   have:j = K:=by omega
   subst this
   rw [ifp_t (fun x h1 h2=>by omega)]
   rfl

theorem inK_cons {k x:Int} {l:List Int}:inK k (x :: l)↔(0≤x∧x < k)∧inK k l:=by simp [inK]
theorem l49c (n m fl fl' K : Nat) (h w : List Int) (hh : h.length ≤ 10) (hw : w.length = h.length) (hK1 : 1 ≤ K) (hK : K ≤ 5) (hm : 20 ≤ m) : ∀ (f i : Nat), h.length - i < f → i ≤ h.length →
 l49_3 (puN (n + 1)) m f (Int.ofNat i) (Int.ofNat K) (sl fl h) (sl fl' w) = some (I (ifp (inK K (h.drop i)∧inK K (w.drop i)) (ifp (evn K h w) 0 17) 2)):=by
 intro f
 induction f with
 | zero=>intro i hi;omega
 | succ f ih =>
  intro i hi hil
  show b49_3 (puN (n + 1)) m (l49_3 (puN (n + 1)) m f) _ _ _ _ = _
  unfold b49_3
  by_cases hlt:i < h.length
  ·have hlw : i < w.length := by omega
   have e1:h.drop i = h[i] :: h.drop (i + 1):=List.drop_eq_getElem_cons hlt
   have e2:w.drop i = w[i] :: w.drop (i + 1):=List.drop_eq_getElem_cons hlw
   have hk:wrapF .i64 (Int.sub (Int.ofNat K) 1) = (K:Int) - 1:=wrapI _ (by show _≤(K:Int) - 1;omega) (by show (K:Int) - 1≤_;omega)
   have q1:=p54 n h[i] 0 ((K:Int) - 1)
   have q2:=p54 n w[i] 0 ((K:Int) - 1)
   rw [sl_n,lt_true hlt]
   simp only [bb_true,toN_mk,oo_some,sl_n,sl_cs,blt_eq,hlt,hlw,decide_true,an_eq,Bool.true_and,nthL_eq,Nat.mul_one,getI h i hlt,getI w i hlw,toI_mk,hk,q1,q2,vBool_mk,m49_4,wrapS i (by omega)]
   rw [e1,e2]
   by_cases c1:0≤h[i]∧h[i] < K
   ·have d1 : (decide (0 ≤ h[i]) && decide (h[i] ≤ (K : Int) - 1)) = true := by simp; omega
    by_cases c2:0≤w[i]∧w[i] < K
    ·have d2 : (decide (0 ≤ w[i]) && decide (w[i] ≤ (K : Int) - 1)) = true := by simp; omega
     simp only [d1,d2,nt_eq,Bool.not_true,bb_false]
     rw [ih (i + 1) (by omega) (by omega)]
     congr 2
     refine ifp_congr ?_ _ _
     rw [inK_cons,inK_cons]
     exact ⟨fun g=>⟨⟨c1,g.1⟩,c2,g.2⟩,fun g=>⟨g.1.2,g.2.2⟩⟩
    ·have d2 : (decide (0 ≤ w[i]) && decide (w[i] ≤ (K : Int) - 1)) = false := by simp; omega
     simp only [d1,d2,nt_eq,Bool.not_true,Bool.not_false,bb_false,bb_true]
     rw [ifp_f (by rw [inK_cons,inK_cons];exact fun g=>c2 g.2.1)]
   ·have d1 : (decide (0 ≤ h[i]) && decide (h[i] ≤ (K : Int) - 1)) = false := by simp; omega
    simp only [d1,nt_eq,Bool.not_false,bb_true]
    rw [ifp_f (by rw [inK_cons,inK_cons];exact fun g=>c1 g.1.1)]
  ·have : i = h.length := by omega
   subst this
   rw [sl_n,lt_false hlt]
   simp only [bb_false,m49_0]
   have:=l49b n m fl fl' K h w (by omega) (by omega) hK m 0 (by omega) (by omega)
   rw [show (0:Int) = Int.ofNat 0 from rfl,this]
   rw [ifp_t (p:=inK _ _∧inK _ _) (by rw [List.drop_of_length_le (Nat.le_refl _),List.drop_of_length_le (by omega)];simp [inK])]
   congr 2
   exact ifp_congr ⟨fun g x hx=>g x (Nat.zero_le _) hx,fun g x _ hx=>g x hx⟩ _ _

theorem p49 (n fl fl':Nat) (k:Int) (h w:List Int):puN (n + 2) 49 [tr fl fl' k h w] = some (I (chk k h w)):=by
 refine Eq.trans (b := oo (puN (n + 1) 54 [I k, I 1, I 5]) none (fun v => oo (vBool v) none fun b => bb (nt b) (some (I 1)) (bb (ieq (Int.ofNat h.length) 0) (some (I 4)) (bb (ilt 10 (Int.ofNat h.length)) (some (I 3)) (bb (nt (ieq (Int.ofNat w.length) (Int.ofNat h.length))) (some (I 5))
  (l49_3 (puN (n + 1)) 1000000 1000000 (Int.ofNat 0) k (sl fl h) (sl fl' w))))))) (by kernel_rfl) ?_
 rw [p54]
 simp only [oo_some,vBool_mk]
 unfold chk
 by_cases hk:1≤k∧k≤5
 ·obtain ⟨K, rfl⟩ : ∃ K : Nat, k = K := ⟨k.toNat, by omega⟩
  have d:(decide ((1:Int)≤K) && decide ((K:Int)≤5)) = true:=by simp;omega
  rw [d,ifp_t hk]
  simp only [nt_eq,Bool.not_true,bb_false,ieq_eq,ilt_eq]
  by_cases h0:h.length = 0
  ·rw [ifp_t h0];simp [h0]
  ·rw [ifp_f h0]
   have d3:(Int.ofNat h.length == 0) = false:=by simp;exact fun e=>h0 (by rw [e];rfl)
   by_cases h1:10 < h.length
   ·have d2 : decide ((10 : Int) < Int.ofNat h.length) = true := by simp; omega
    rw [ifp_t h1,d2,d3];rfl
   ·have d2 : decide ((10 : Int) < Int.ofNat h.length) = false := by simp; omega
    rw [ifp_f h1,d2,d3]
    simp only [bb_false]
    by_cases h2:w.length = h.length
    ·have d4 : (Int.ofNat w.length == Int.ofNat h.length) = true := by simp [h2]
     rw [ifp_t h2,d4]
     simp only [Bool.not_true,bb_false]
     have:=l49c n 1000000 fl fl' K h w (by omega) h2 (by omega) (by omega) (by omega) 1000000 0 (by omega) (by omega)
     rw [show ((K:Nat):Int) = Int.ofNat K from rfl,this]
     rfl
    ·have d4 : (Int.ofNat w.length == Int.ofNat h.length) = false := by simp; omega
     rw [ifp_f h2,d4];rfl
 ·have d : (decide ((1 : Int) ≤ k) && decide (k ≤ 5)) = false := by simp; omega
  rw [d,ifp_f hk];rfl
end Go.MdFM
set_option maxRecDepth 100000
namespace Go.MdFM
open Go.Sp Go.MdF

theorem setL_one {α : Type} (v : α) : ∀ (i : Nat) (xs : List α), i < xs.length → setL [v] i xs = xs.set i v
 | 0,x :: xs,_=>rfl
 | i + 1, x :: xs, h => by
  show x :: setL [v] i xs = x :: xs.set i v
  rw [setL_one v i xs (by simpa using h)]
 | _,[],h=>by simp at h

theorem m47_end (pu:PureF) (n:Nat) (q:List Int) (hq:q.length = 5):m47_0 pu n (q.map I) = some (I (ifp (∀ j,(h:j < q.length)→q[j] = 0) 0 17)):=by
 match q,hq with
 | [a, b, c, d, e], _ =>
  show bb (bq false (an (ieq a 0) (an (ieq b 0) (an (ieq c 0) (an (ieq d 0) (an (ieq e 0) true)))))) (some (I 17)) (some (I 0)) = _
  by_cases h:a = 0∧b = 0∧c = 0∧d = 0∧e = 0
  ·obtain ⟨rfl, rfl, rfl, rfl, rfl⟩ := h
   rw [ifp_t (by intro j hj;match j,hj with | 0,_=>rfl | 1,_=>rfl | 2,_=>rfl | 3,_=>rfl | 4,_=>rfl | j + 5,hj=>simp at hj;omega)]
   rfl
  ·rw [ifp_f (fun g => h ⟨g 0 (by simp), g 1 (by simp), g 2 (by simp), g 3 (by simp), g 4 (by simp)⟩)]
   have:(bq false (an (ieq a 0) (an (ieq b 0) (an (ieq c 0) (an (ieq d 0) (an (ieq e 0) true)))))) = true:=by
    simp [ieq_eq];omega
   rw [this];rfl

def upd (q:List Int) (X Y:Nat):List Int:=(q.set X (q.getD X 0 + 1)).set Y ((q.set X (q.getD X 0 + 1)).getD Y 0 - 1)
theorem upd_len (q:List Int) (X Y:Nat):(upd q X Y).length = q.length:=by simp [upd]
theorem upd_get (q : List Int) (X Y j : Nat) (hX : X < q.length) (hY : Y < q.length) (hj : j < q.length) :
 (upd q X Y).getD j 0 = q.getD j 0 + (if j = X then 1 else 0) - (if j = Y then 1 else 0):=by
 unfold upd
 simp only [List.getD_eq_getElem?_getD,List.getElem?_set,List.length_set]
 by_cases h1:j = X <;> by_cases h2:j = Y <;> simp [h1,h2,hX,hY,hj,eq_comm] <;> (try subst h1) <;> (try subst h2) <;> simp_all [eq_comm] <;> omega

theorem set_getD (q:List Int) (X Y:Nat) (v:Int) (hX:X < q.length):(q.set X v).getD Y 0 = if Y = X then v else q.getD Y 0:=by
 simp only [List.getD_eq_getElem?_getD,List.getElem?_set]
 by_cases h:X = Y
 ·subst h;simp [hX]
 ·rw [if_neg h,if_neg (fun e=>h e.symm)]
theorem m47_step (pu : PureF) (n : Nat) (ih0 : Sl → Int → Int → Int → Sl → Sl → List Value → Option Value) (X Y i : Nat) (s t u : Sl) (z k : Int) (q : List Int) (hq : q.length = 5) (hX : X < 5) (hY : Y < 5) (hi : i < 1000)
 (hb:∀ j,j < 5→-1000≤q.getD j 0∧q.getD j 0≤1000) :
 m47_2 pu n ih0 (Int.ofNat X) (Int.ofNat Y) s z (Int.ofNat i) false k t u (q.map I) = ih0 s z (Int.ofNat (i + 1)) k t u ((upd q X Y).map I):=by
 unfold m47_2
 have gX : q[X]'(by omega) = q.getD X 0 := by simp [List.getD_eq_getElem?_getD, hq, hX]
 have w1:wrapF .i64 (Int.add (q.getD X 0) 1) = q.getD X 0 + 1:=wrapI _ (by have:=hb X hX;show _≤q.getD X 0 + 1;omega) (by have:=hb X hX;show q.getD X 0 + 1≤_;omega)
 have s1:setL ([I (q.getD X 0 + 1)]:List Value) X (q.map I) = (q.set X (q.getD X 0 + 1)).map I:=by
  rw [setL_one _ _ _ (by simp [hq,hX]),List.map_set]
 have hl1:(q.set X (q.getD X 0 + 1)).length = 5:=by simp [hq]
 have gY : (q.set X (q.getD X 0 + 1))[Y]'(by omega) = (q.set X (q.getD X 0 + 1)).getD Y 0 := by simp [List.getD_eq_getElem?_getD, hq, hY]
 have hbY:-1001≤(q.set X (q.getD X 0 + 1)).getD Y 0∧(q.set X (q.getD X 0 + 1)).getD Y 0≤1001:=by
  have h1:=hb X hX
  have h2:=hb Y hY
  rw [set_getD _ _ _ _ (by omega)]
  split <;> omega
 have w2:wrapF .i64 (Int.sub ((q.set X (q.getD X 0 + 1)).getD Y 0) 1) = (q.set X (q.getD X 0 + 1)).getD Y 0 - 1:=wrapI _ (by show _≤(q.set X (q.getD X 0 + 1)).getD Y 0 - 1;omega) (by show (q.set X (q.getD X 0 + 1)).getD Y 0 - 1≤_;omega)
 have s2:setL ([I ((q.set X (q.getD X 0 + 1)).getD Y 0 - 1)]:List Value) Y ((q.set X (q.getD X 0 + 1)).map I) = (upd q X Y).map I:=by
  rw [setL_one _ _ _ (by simp [hq,hY]),←List.map_set];rfl
 have e1:(q.map I)[X]? = some (I (q.getD X 0)):=by rw [getI q X (by omega),gX]
 have e2:((q.set X (q.getD X 0 + 1)).map I)[Y]? = some (I ((q.set X (q.getD X 0 + 1)).getD Y 0)):=by rw [getI _ Y (by omega),gY]
 simp only [bb_false,allL_eq,closedI,bb_true,toN_mk,oo_some,blt_eq,hX,hY,decide_true,nthL_eq,Nat.zero_add,Nat.mul_one,e1,toI_mk,w1,s1,ble_eq,len_eq,List.length_map,hq,hl1,an_eq,Bool.and_true,Nat.succ_le_of_lt hX,Nat.succ_le_of_lt hY,e2,w2,s2,wrapS i (by omega:i < 1000000)]

theorem count_take {l:List Int} {i:Nat} (h:i < l.length) (x:Int):(l.take (i + 1)).count x = (l.take i).count x + (if l[i] = x then 1 else 0):=by
 rw [List.take_add_one,List.getElem?_eq_getElem h,Option.toList_some,List.count_append,List.count_singleton]
 simp only [beq_iff_eq]
theorem inK_take {k:Int} {l:List Int} {i:Nat} (h:i < l.length) (h1:inK k (l.take i)) (h2:0≤l[i]∧l[i] < k):inK k (l.take (i + 1)):=by
 rw [List.take_add_one,List.getElem?_eq_getElem h]
 intro x hx
 simp only [Option.toList_some,List.mem_append,List.mem_singleton] at hx
 rcases hx with hx | rfl
 ·exact h1 x hx
 ·exact h2
theorem count_out {k:Int} {l:List Int} (h:inK k l) {x:Int} (hx:k≤x):l.count x = 0:=by
 rw [List.count_eq_zero]
 intro hm
 have:=(h x hm).2
 omega

theorem l47 (n m fl fl' K : Nat) (h w : List Int) (hh : h.length ≤ 10) (hw : w.length = h.length) (hK1 : 1 ≤ K) (hK : K ≤ 5) : ∀ (f i : Nat) (q : List Int), h.length - i < f → i ≤ h.length → q.length = 5 →
 (∀ j,j < 5→q.getD j 0 = (h.take i).count (j:Int) - (w.take i).count (j:Int))→inK K (h.take i)→inK K (w.take i) →
 l47_1 (puN (n + 1)) m f (sl fl h) (Int.ofNat h.length) (Int.ofNat i) (Int.ofNat K) (sl fl h) (sl fl' w) (q.map I) = some (I (ifp (inK K (h.drop i)∧inK K (w.drop i)) (ifp (evn K h w) 0 17) 2)):=by
 intro f
 induction f with
 | zero=>intro i q hi;omega
 | succ f ih =>
  intro i q hi hil hq hinv hih hiw
  show b47_1 (puN (n + 1)) m (l47_1 (puN (n + 1)) m f) _ _ _ _ _ _ _ = _
  unfold b47_1
  rw [allL_eq,closedI,bb_true]
  by_cases hlt:i < h.length
  ·have hlw : i < w.length := by omega
   have e1:h.drop i = h[i] :: h.drop (i + 1):=List.drop_eq_getElem_cons hlt
   have e2:w.drop i = w[i] :: w.drop (i + 1):=List.drop_eq_getElem_cons hlw
   have hk:wrapF .i64 (Int.sub (Int.ofNat K) 1) = (K:Int) - 1:=wrapI _ (by show _≤(K:Int) - 1;omega) (by show (K:Int) - 1≤_;omega)
   rw [lt_true hlt]
   simp only [bb_true,toN_mk,oo_some,sl_n,sl_cs,blt_eq,hlt,hlw,decide_true,an_eq,Bool.true_and,nthL_eq,Nat.mul_one,getI h i hlt,getI w i hlw,toI_mk,hk]
   rw [show (0:Int) = Int.ofNat 0 from rfl,show (Value.int IntKind.i64 (Int.ofNat 0)) = I 0 from rfl,p52 n 0 (bb (ilt w[i] h[i]) w[i] h[i]) ((K:Int) - 1)]
   simp only [oo_some,vBool_mk]
   rw [e1,e2]
   by_cases c:(0≤h[i]∧h[i] < K)∧(0≤w[i]∧w[i] < K)
   ·have d1 : (decide (0 ≤ bb (ilt w[i] h[i]) w[i] h[i]) && decide (bb (ilt w[i] h[i]) w[i] h[i] ≤ (K : Int) - 1)) = true := by
     cases hc:ilt w[i] h[i] <;> rw [bb_eq] <;> simp only [Bool.and_eq_true,decide_eq_true_iff,if_true,Bool.false_eq_true,if_false] <;> exact ⟨by omega,by omega⟩
    have d2:nt (ilt (bb (ilt h[i] w[i]) w[i] h[i]) (Int.ofNat K)) = false:=by
     cases hc:ilt h[i] w[i] <;> simp [ilt_eq]
     all_goals omega
    rw [d1,d2]
    simp only [nt_eq,Bool.not_true,bb_false]
    obtain ⟨X,hX⟩:∃ X:Nat,h[i] = Int.ofNat X:=⟨h[i].toNat,(Int.toNat_of_nonneg c.1.1).symm⟩
    obtain ⟨Y,hY⟩:∃ Y:Nat,w[i] = Int.ofNat Y:=⟨w[i].toNat,(Int.toNat_of_nonneg c.2.1).symm⟩
    rw [hX,hY] at c
    simp only [Int.ofNat_eq_natCast] at c
    have hbq:∀ j,j < 5→-1000≤q.getD j 0∧q.getD j 0≤1000:=fun j hj=>by
     have:=hinv j hj
     have c1:=List.count_le_length (a:=(j:Int)) (l:=h.take i)
     have c2:=List.count_le_length (a:=(j:Int)) (l:=w.take i)
     simp only [List.length_take] at c1 c2
     omega
    rw [hX,hY,m47_step _ _ _ X Y i _ _ _ _ _ q hq (by omega) (by omega) (by omega) hbq,ih (i + 1) (upd q X Y) (by omega) (by omega) (by rw [upd_len,hq]) ?_ (inK_take hlt hih (by rw [hX];simp;omega)) (inK_take hlw hiw (by rw [hY];simp;omega))]
    ·congr 2
     refine ifp_congr ?_ _ _
     rw [inK_cons,inK_cons]
     refine ⟨fun g=>⟨⟨?_,g.1⟩,?_,g.2⟩,fun g=>⟨g.1.2,g.2.2⟩⟩
     ·simp;omega
     ·simp;omega
    ·intro j hj
     rw [upd_get q X Y j (by omega) (by omega) (by omega),hinv j hj,count_take hlt,count_take hlw,hX,hY]
     have t1:(Int.ofNat X = (j:Int))↔j = X:=by simp;omega
     have t2:(Int.ofNat Y = (j:Int))↔j = Y:=by simp;omega
     simp only [t1,t2]
     split <;> split <;> simp <;> omega
   ·rw [ifp_f (by rw [inK_cons, inK_cons]; exact fun g => c ⟨g.1.1, g.2.1⟩)]
    by_cases d1:(decide (0≤bb (ilt w[i] h[i]) w[i] h[i]) && decide (bb (ilt w[i] h[i]) w[i] h[i]≤(K:Int) - 1)) = true
    ·have d2 : nt (ilt (bb (ilt h[i] w[i]) w[i] h[i]) (Int.ofNat K)) = true := by
      cases hc:ilt w[i] h[i] <;> rw [hc] at d1 <;> cases hc2:ilt h[i] w[i] <;> rw [ilt_eq] at hc hc2 <;> simp only [bb_true,bb_false,Bool.and_eq_true,decide_eq_true_iff,decide_eq_false_iff_not] at d1 hc hc2 <;> obtain ⟨d1,d3⟩:=d1 <;> have d1:=of_decide_eq_true d1 <;> have d3:=of_decide_eq_true d3 <;> simp [ilt_eq] <;> omega
     rw [d1,d2];rfl
    ·rw [Bool.not_eq_true] at d1
     rw [d1];rfl
  ·have : i = h.length := by omega
   subst this
   rw [lt_false hlt,bb_false,m47_end _ _ _ hq]
   rw [ifp_t (p:=inK _ _∧inK _ _) (by rw [List.drop_of_length_le (Nat.le_refl _),List.drop_of_length_le (by omega)];simp [inK])]
   rw [List.take_length] at hih hinv
   rw [←hw,List.take_length] at hiw hinv
   congr 2
   refine ifp_congr ⟨fun g x hx=>?_,fun g j hj=>?_⟩ _ _
   ·have h1 := hinv x (by omega)
    have h2:=g x (by omega)
    rw [List.getD_eq_getElem?_getD,List.getElem?_eq_getElem (by omega),Option.getD_some,h2] at h1
    omega
   ·have h1 := hinv j (by omega)
    rw [List.getD_eq_getElem?_getD,List.getElem?_eq_getElem hj,Option.getD_some] at h1
    rw [h1]
    by_cases hx:j < K
    ·rw [g j hx];omega
    ·rw [count_out hih (by omega:(K:Int)≤(j:Int)),count_out hiw (by omega:(K:Int)≤(j:Int))];rfl

theorem p47 (n fl fl':Nat) (k:Int) (h w:List Int):puN (n + 2) 47 [tr fl fl' k h w] = some (I (chk k h w)):=by
 refine Eq.trans (b := oo (puN (n + 1) 52 [I 1, I k, I 5]) none (fun v => oo (vBool v) none fun b => bb (nt b) (some (I 1)) (bb (ieq (Int.ofNat h.length) 0) (some (I 4)) (bb (ilt 10 (Int.ofNat h.length)) (some (I 3)) (bb (nt (ieq (Int.ofNat w.length) (Int.ofNat h.length))) (some (I 5))
  (l47_1 (puN (n + 1)) 1000000 1000000 (sl fl h) (Int.ofNat h.length) (Int.ofNat 0) k (sl fl h) (sl fl' w) (([0,0,0,0,0]:List Int).map I))))))) (by kernel_rfl) ?_
 rw [p52]
 simp only [oo_some,vBool_mk]
 unfold chk
 by_cases hk:1≤k∧k≤5
 ·obtain ⟨K, rfl⟩ : ∃ K : Nat, k = K := ⟨k.toNat, by omega⟩
  have d:(decide ((1:Int)≤K) && decide ((K:Int)≤5)) = true:=by simp;omega
  rw [d,ifp_t hk]
  simp only [nt_eq,Bool.not_true,bb_false,ieq_eq,ilt_eq]
  by_cases h0:h.length = 0
  ·rw [ifp_t h0];simp [h0]
  ·rw [ifp_f h0]
   have d3:(Int.ofNat h.length == 0) = false:=by simp;exact fun e=>h0 (by rw [e];rfl)
   by_cases h1:10 < h.length
   ·have d2 : decide ((10 : Int) < Int.ofNat h.length) = true := by simp; omega
    rw [ifp_t h1,d2,d3];rfl
   ·have d2 : decide ((10 : Int) < Int.ofNat h.length) = false := by simp; omega
    rw [ifp_f h1,d2,d3]
    simp only [bb_false]
    by_cases h2:w.length = h.length
    ·have d4 : (Int.ofNat w.length == Int.ofNat h.length) = true := by simp [h2]
     rw [ifp_t h2,d4]
     simp only [Bool.not_true,bb_false]
     have:=l47 n 1000000 fl fl' K h w (by omega) h2 (by omega) (by omega) 1000000 0 [0,0,0,0,0] (by omega) (by omega) rfl (by intro j hj;match j,hj with | 0,_=>rfl | 1,_=>rfl | 2,_=>rfl | 3,_=>rfl | 4,_=>rfl | j + 5,hj=>omega) (by simp [inK]) (by simp [inK])
     rw [show ((K:Nat):Int) = Int.ofNat K from rfl,this]
     rfl
    ·have d4 : (Int.ofNat w.length == Int.ofNat h.length) = false := by simp; omega
     rw [ifp_f h2,d4];rfl
 ·have d : (decide ((1 : Int) ≤ k) && decide (k ≤ 5)) = false := by simp; omega
  rw [d,ifp_f hk];rfl
end Go.MdFM
set_option maxRecDepth 100000
namespace Go.MdFM
open Go.Sp Go.MdF

theorem p11 (n fl fl':Nat) (k:Int) (h w:List Int):puN (n + 1) 11 [tr fl fl' k h w] = some (Value.bool (decide (40 < h.length) || decide (40 < w.length))):=by
 show bb (ilt 40 (Int.ofNat h.length)) (some (Value.bool true)) (some (Value.bool (ilt 40 (Int.ofNat w.length)))) = _
 have e:∀ m:Nat,ilt 40 (Int.ofNat m) = decide (40 < m):=fun m=>by
  rw [ilt_eq,Bool.eq_iff_iff,decide_eq_true_iff,decide_eq_true_iff];simp;omega
 rw [e,e]
 cases decide (40 < h.length) <;> rfl

noncomputable def exg (a b:Int) (N:Nat):Int:=ifp (0≤a∧a < N∧0≤b∧b < N) (ifp (a < b) 0 7) 2
theorem ex_last (pu:PureF) (n:Nat) (a b:Int) (c:Bool):m57_0 pu n a b c = some (I (bb c 2 (ifp (a < b) 0 7))):=by
 unfold m57_0
 cases c with
 | true=>rfl
 | false =>
  by_cases h:a < b
  ·have : nt (ilt a b) = false := by simp [ilt_eq, h]
   rw [this,ifp_t h];rfl
  ·have : nt (ilt a b) = true := by simp [ilt_eq]; omega
   rw [this,ifp_f h];rfl
theorem ex_last2 (pu:PureF) (n:Nat) (a b:Int) (c:Bool):m59_0 pu n a b c = some (I (bb c 2 (ifp (a < b) 0 7))):=ex_last pu n a b c
theorem bbmin (a b:Int):bb (ilt b a) b a = min a b:=by
 by_cases h:b < a
 ·have : ilt b a = true := by simp [ilt_eq, h]
  rw [this,bb_true];omega
 ·have : ilt b a = false := by simp [ilt_eq]; omega
  rw [this,bb_false];omega
theorem bbmax (a b:Int):bb (ilt a b) b a = max a b:=by
 by_cases h:a < b
 ·have : ilt a b = true := by simp [ilt_eq, h]
  rw [this,bb_true];omega
 ·have : ilt a b = false := by simp [ilt_eq]; omega
  rw [this,bb_false];omega
theorem iltD {x y:Int}:(ilt x y = true↔x < y):=by rw [ilt_eq,decide_eq_true_iff]
theorem iltF {x y:Int}:(ilt x y = false↔¬ x < y):=by rw [ilt_eq,decide_eq_false_iff_not]
theorem p57 (n fl fl':Nat) (k a b:Int) (h w:List Int):puN (n + 1) 57 [tr fl fl' k h w,I a,I b] = some (I (exg a b h.length)):=by
 refine Eq.trans (b:=bb (ilt (bb (ilt b a) b a) 0) (m57_0 (puN n) 1000000 a b true) (m57_0 (puN n) 1000000 a b (nt (ilt (bb (ilt a b) b a) (Int.ofNat h.length))))) (by kernel_rfl) ?_
 rw [ex_last,ex_last,bbmin,bbmax]
 unfold exg
 by_cases c:0≤a∧a < h.length∧0≤b∧b < h.length
 ·have d1 : ilt (min a b) 0 = false := iltF.2 (by omega)
  have d2:ilt (max a b) (Int.ofNat h.length) = true:=iltD.2 (by show max a b < (h.length:Int);omega)
  rw [ifp_t c,d1,d2];rfl
 ·rw [ifp_f c]
  by_cases d1:min a b < 0
  ·rw [iltD.2 d1];rfl
  ·have d2 : ilt (max a b) (Int.ofNat h.length) = false := iltF.2 (by show ¬ max a b < (h.length : Int); omega)
   rw [iltF.2 d1,d2];rfl
theorem p59 (n fl fl':Nat) (k a b:Int) (h w:List Int) (hl:h.length < 1000):puN (n + 2) 59 [tr fl fl' k h w,I a,I b] = some (I (exg a b h.length)):=by
 refine Eq.trans (b := oo (puN (n + 1) 54 [I a, I 0, I (wrapF .i64 (Int.sub (Int.ofNat h.length) 1))]) none (fun v => oo (vBool v) none fun c => bb (nt c) (m59_0 (puN (n + 1)) 1000000 a b true)
  (oo (puN (n + 1) 54 [I b,I 0,I (wrapF .i64 (Int.sub (Int.ofNat h.length) 1))]) none fun v=>oo (vBool v) none fun c=>m59_0 (puN (n + 1)) 1000000 a b (nt c)))) (by kernel_rfl) ?_
 have hk:wrapF .i64 (Int.sub (Int.ofNat h.length) 1) = (h.length:Int) - 1:=wrapI _ (by show _≤(h.length:Int) - 1;omega) (by show (h.length:Int) - 1≤_;omega)
 rw [hk,p54,p54]
 simp only [oo_some,vBool_mk,ex_last2]
 unfold exg
 by_cases c:0≤a∧a < h.length∧0≤b∧b < h.length
 ·have d1 : (decide (0 ≤ a) && decide (a ≤ (h.length : Int) - 1)) = true := by simp; omega
  have d2:(decide (0≤b) && decide (b≤(h.length:Int) - 1)) = true:=by simp;omega
  rw [ifp_t c,d1,d2];rfl
 ·rw [ifp_f c]
  by_cases d1:0≤a∧a < h.length
  ·have e1 : (decide (0 ≤ a) && decide (a ≤ (h.length : Int) - 1)) = true := by simp; omega
   have e2:(decide (0≤b) && decide (b≤(h.length:Int) - 1)) = false:=by simp;omega
   rw [e1,e2];rfl
  ·have e1 : (decide (0 ≤ a) && decide (a ≤ (h.length : Int) - 1)) = false := by simp; omega
   rw [e1];rfl

def swp (h:List Int) (A B:Nat):List Int:=(h.set A (h.getD B 0)).set B (h.getD A 0)
theorem swp_len (h:List Int) (A B:Nat):(swp h A B).length = h.length:=by simp [swp]
theorem roomyS {n:Nat} (h:n≤1000):roomy n 8 = true:=by
 unfold roomy;rw [ble_eq];simp;omega
theorem takeI (l:List Int):takeL (l.length * 1) (l.map I) = l.map I:=by rw [takeL_eq,Nat.mul_one,List.take_of_length_le (by simp)]
theorem takeI' (l:List Int) (n:Nat) (h:n = l.length):takeL (n * 1) (dropL 0 (l.map I)) = l.map I:=by rw [h,dropL_eq,List.drop_zero,takeI]
theorem takeM (l:List Int):List.take l.length (l.map I) = l.map I:=List.take_of_length_le (by simp)
theorem getD_I (l:List Int) (i:Nat) (h:i < l.length):(l.map I)[i]? = some (I (l.getD i 0)):=by rw [getI l i h];simp [h]

theorem p43 (n fl fl' A B : Nat) (k : Int) (h w : List Int) (hh : h.length ≤ 1000) (hw : w.length ≤ 1000) (hA : A < h.length) (hB : B < h.length) :
 puN (n + 1) 43 [tr fl fl' k h w,I (Int.ofNat A),I (Int.ofNat B)] = some (tr 0 0 k (swp h A B) w):=by
 have e:puN (n + 1) 43 [tr fl fl' k h w,I (Int.ofNat A),I (Int.ofNat B)] = m43_ (puN n) 1000000 k (sl fl h) (sl fl' w) (Int.ofNat A) (Int.ofNat B):=by kernel_rfl
 rw [e]
 unfold m43_
 have r1:roomy (0 + h.length) 8 = true:=roomyS (by omega)
 have r2:roomy (0 + w.length) 8 = true:=roomyS (by omega)
 have s1:setL ([I (h.getD B 0)]:List Value) A (h.map I) = (h.set A (h.getD B 0)).map I:=by rw [setL_one _ _ _ (by simpa using hA),List.map_set]
 have s2:setL ([I (h.getD A 0)]:List Value) B ((h.set A (h.getD B 0)).map I) = (swp h A B).map I:=by rw [setL_one _ _ _ (by simpa using hB),←List.map_set];rfl
 simp only [sl_n,sl_cs,r1,r2,bb_true,allL_eq,takeM,takeL_eq,Nat.mul_one,closedI,toN_mk,oo_some,blt_eq,hA,hB,decide_true,an_eq,Bool.true_and,Bool.and_true,nthL_eq,Nat.zero_add,Nat.mul_one,getD_I h A hA,getD_I h B hB,toI_mk,s1,s2,ble_eq,len_eq,List.length_map,List.length_set,swp_len,Nat.succ_le_of_lt hA,Nat.succ_le_of_lt hB,dropL_eq,List.drop_zero,takeL_eq,Nat.le_refl]
 have t1:List.take h.length ((swp h A B).map I) = (swp h A B).map I:=List.take_of_length_le (by simp [swp_len])
 have t2:List.take w.length (w.map I) = w.map I:=List.take_of_length_le (by simp)
 have r3:roomy h.length 8 = true:=roomyS (by omega)
 have r4:roomy w.length 8 = true:=roomyS (by omega)
 simp only [r3,r4,t1,t2,closedI,bb_true]
 unfold tr S sl
 rw [swp_len]

theorem p46 (n fl fl' A B : Nat) (k : Int) (h w : List Int) (hh : h.length ≤ 1000) (hw : w.length = h.length) (hA : A < h.length) (hB : B < h.length) :
 puN (n + 1) 46 [tr fl fl' k h w,I (Int.ofNat A),I (Int.ofNat B)] = some (tr 0 0 k (swp h A B) w):=by
 have e:puN (n + 1) 46 [tr fl fl' k h w,I (Int.ofNat A),I (Int.ofNat B)] = m46_ (puN n) 1000000 k (sl fl h) (sl fl' w) (Int.ofNat A) (Int.ofNat B):=by kernel_rfl
 rw [e]
 unfold m46_
 have z1:Nat.beq h.length 0 = false:=by cases hz:h.length with
  | zero=>omega
  | succ m=>rfl
 have z2:Nat.beq w.length 0 = false:=by rw [hw];exact z1
 have r1:roomy (0 + h.length) 8 = true:=roomyS (by omega)
 have r2:roomy (0 + w.length) 8 = true:=roomyS (by omega)
 have s1:setL ([I (h.getD B 0)]:List Value) A (h.map I) = (h.set A (h.getD B 0)).map I:=by rw [setL_one _ _ _ (by simpa using hA),List.map_set]
 have s2:setL ([I (h.getD A 0)]:List Value) B ((h.set A (h.getD B 0)).map I) = (swp h A B).map I:=by rw [setL_one _ _ _ (by simpa using hB),←List.map_set];rfl
 simp only [sl_n,sl_cs,z1,z2,bb_false,r1,r2,bb_true,allL_eq,takeM,takeL_eq,Nat.mul_one,closedI,toN_mk,oo_some,blt_eq,Nat.zero_add,hA,hB,decide_true,an_eq,Bool.true_and,Bool.and_true,nthL_eq,Nat.mul_one,getD_I h A hA,getD_I h B hB,toI_mk,s1,s2,ble_eq,len_eq,List.length_map,List.length_set,swp_len,Nat.succ_le_of_lt hA,Nat.succ_le_of_lt hB,dropL_eq,List.drop_zero,takeL_eq,Nat.le_refl]
 have r3:roomy h.length 8 = true:=roomyS (by omega)
 have r4:roomy w.length 8 = true:=roomyS (by omega)
 have t1:List.take h.length ((swp h A B).map I) = (swp h A B).map I:=List.take_of_length_le (by simp [swp_len])
 have t2:List.take w.length (w.map I) = w.map I:=List.take_of_length_le (by simp)
 simp only [r3,r4,t1,t2,closedI,bb_true]
 unfold tr S sl
 rw [swp_len]
end Go.MdFM
set_option maxRecDepth 100000
namespace Go.MdFM
open Go.Sp Go.MdF

def wr : List Int → List Int → Nat → List Int
 | x :: h,y :: w,i=>if x = y then wr h w (i + 1) else (i:Int) :: wr h w (i + 1)
 | _,_,_=>[]
def bv : List Int → List Int → Nat
 | x :: h,y :: w=>(if x = y then 0 else 1) + 2 * bv h w
 | _,_=>0
theorem bv_lt : ∀ (h w : List Int), bv h w < 2 ^ h.length
 | [],w=>by simp [bv]
 | x :: h,[]=>by simp [bv];exact Nat.two_pow_pos _
 | x :: h, y :: w => by
  have:=bv_lt h w
  simp only [bv,List.length_cons,Nat.pow_succ]
  split <;> omega
def bl : Nat → Nat → Nat → List Int
 | 0,_,_=>[]
 | f + 1,i,s=>if s % 2 = 1 then (i:Int) :: bl f (i + 1) (s / 2) else bl f (i + 1) (s / 2)
theorem bl_zero : ∀ (f i : Nat), bl f i 0 = []
 | 0,_=>rfl
 | f + 1,i=>by simp [bl,bl_zero f (i + 1)]
theorem bl_bv : ∀ (f i : Nat) (h w : List Int), h.length ≤ f → bl f i (bv h w) = wr h w i
 | f,i,[],w,_=>by simp [bv,wr,bl_zero]
 | f,i,x :: h,[],_=>by simp [bv,wr,bl_zero]
 | 0,i,x :: h,y :: w,hl=>by simp at hl
 | f + 1, i, x :: h, y :: w, hl => by
  have ih:=bl_bv f (i + 1) h w (by simpa using hl)
  have hb:bv (x :: h) (y :: w) = (if x = y then 0 else 1) + 2 * bv h w:=rfl
  by_cases hxy:x = y
  ·rw [if_pos hxy] at hb
   have e2:bv (x :: h) (y :: w) / 2 = bv h w:=by omega
   rw [bl,if_neg (by omega),e2,ih,wr,if_pos hxy]
  ·rw [if_neg hxy] at hb
   have e2:bv (x :: h) (y :: w) / 2 = bv h w:=by omega
   rw [bl,if_pos (by omega),e2,ih,wr,if_neg hxy]

noncomputable def eqS (o:Option Value) (l:List Int):Bool:=oo o false fun v=>oo (toSl 1 v) false fun s=>an (Nat.beq s.n (len l)) (an (Nat.beq s.fl 0) (valsEq s.cs (mapL I l)))
theorem eqS_ok {o:Option Value} {l:List Int} (h:eqS o l = true):o = some (S 0 l):=by
 unfold eqS at h
 cases o with
 | none=>cases h
 | some v =>
  rw [oo_some] at h
  cases hs:toSl 1 v with
  | none=>rw [hs] at h;cases h
  | some s =>
   rw [hs,oo_some] at h
   obtain ⟨h1,h2⟩:=an_inv h
   obtain ⟨h3,h4⟩:=an_inv h2
   have g1:s.n = len l:=Nat.eq_of_beq_eq_true h1
   have g2:s.fl = 0:=Nat.eq_of_beq_eq_true h3
   have g3:s.cs = mapL I l:=valsEq_eq h4
   rw [toSl_some hs]
   have:s = sl 0 l:=by
    cases s
    rw [len_eq] at g1
    rw [mapL_map] at g3
    simp only at g1 g2 g3
    rw [g1,g2,g3];rfl
   rw [this];rfl
theorem all62 (n:Nat):belowAll (fun s=>eqS (puN (n + 2) 62 [.int .u16 (Int.ofNat s)]) (bl 10 0 s)) 1024 = true:=by kernel_rfl
theorem p62 (n s:Nat) (hs:s < 1024):puN (n + 2) 62 [.int .u16 (Int.ofNat s)] = some (S 0 (bl 10 0 s)):=eqS_ok (belowAll_iff (all62 n) s hs)

theorem addBit (Z i:Nat) (hZ:Z < 2 ^ i) (hi:i < 10):aor .u16 (Int.ofNat Z) (shlI .u16 1 i) = Int.ofNat (Z + 2 ^ i):=by
 have e1:shlI .u16 1 i = Int.ofNat (2 ^ i):=by
  match i,hi with
  | 0,_=>rfl | 1,_=>rfl | 2,_=>rfl | 3,_=>rfl | 4,_=>rfl | 5,_=>rfl | 6,_=>rfl | 7,_=>rfl | 8,_=>rfl | 9,_=>rfl
  | i + 10,h=>omega
 rw [e1]
 have h2:2 ^ i≤2 ^ 9:=Nat.pow_le_pow_right (by omega) (by omega)
 have e2:bothIn .u16 Z (2 ^ i) = true:=by
  unfold bothIn
  have:bitsMax .u16 = 65535:=rfl
  rw [this,ble_eq,ble_eq];simp;omega
 show bb (bothIn .u16 Z (2 ^ i)) (Int.ofNat (Nat.lor Z (2 ^ i))) _ = _
 rw [e2,bb_true]
 have:=Nat.two_pow_add_eq_or_of_lt hZ 1
 rw [Nat.mul_one] at this
 have h3:Nat.lor Z (2 ^ i) = 2 ^ i ||| Z:=Nat.or_comm Z (2 ^ i)
 rw [h3,←this];congr 1;omega

theorem l51 (pu : PureF) (n fl fl' : Nat) (k : Int) (h w : List Int) (hh : h.length ≤ 10) (hw : w.length = h.length) : ∀ (f i Z : Nat), h.length - i < f → i ≤ h.length → Z < 2 ^ i →
 l51_1 pu n f (Int.ofNat Z) (sl fl h) (Int.ofNat h.length) (Int.ofNat i) k (sl fl h) (sl fl' w) = some (.int .u16 (Int.ofNat (Z + 2 ^ i * bv (h.drop i) (w.drop i)))):=by
 intro f
 induction f with
 | zero=>intro i Z hi;omega
 | succ f ih =>
  intro i Z hi hil hZ
  show b51_1 pu n (l51_1 pu n f) _ _ _ _ _ _ _ = _
  unfold b51_1
  by_cases hlt:i < h.length
  ·have hlw : i < w.length := by omega
   have e1:h.drop i = h[i] :: h.drop (i + 1):=List.drop_eq_getElem_cons hlt
   have e2:w.drop i = w[i] :: w.drop (i + 1):=List.drop_eq_getElem_cons hlw
   rw [lt_true hlt]
   simp only [bb_true,toN_mk,oo_some,sl_n,sl_cs,blt_eq,hlt,hlw,decide_true,an_eq,Bool.true_and,nthL_eq,Nat.mul_one,getI h i hlt,getI w i hlw,toI_mk,m51_2,wrapS i (by omega:i < 1000000),addBit Z i hZ (by omega)]
   rw [e1,e2]
   have hp:2 ^ (i + 1) = 2 * 2 ^ i:=by rw [Nat.pow_succ];omega
   by_cases hx:h[i] = w[i]
   ·have : nt (ieq h[i] w[i]) = false := by simp [ieq_eq, hx]
    rw [this,bb_false,ih (i + 1) Z (by omega) (by omega) (by omega)]
    simp only [bv,if_pos hx]
    congr 3
    rw [hp,Nat.zero_add,Nat.mul_comm 2 (2 ^ i),Nat.mul_assoc]
   ·have : nt (ieq h[i] w[i]) = true := by simp [ieq_eq, hx]
    rw [this,bb_true,ih (i + 1) (Z + 2 ^ i) (by omega) (by omega) (by omega)]
    simp only [bv,if_neg hx]
    congr 3
    rw [hp,Nat.mul_add,Nat.mul_one,Nat.mul_comm 2 (2 ^ i),Nat.mul_assoc];omega
  ·have : i = h.length := by omega
   subst this
   rw [lt_false hlt,bb_false,List.drop_of_length_le (Nat.le_refl _)]
   simp [bv,m51_0]
theorem p51 (n fl fl':Nat) (k:Int) (h w:List Int) (hh:h.length≤10) (hw:w.length = h.length):puN (n + 1) 51 [tr fl fl' k h w] = some (.int .u16 (Int.ofNat (bv h w))):=by
 refine Eq.trans (b:=l51_1 (puN n) 1000000 1000000 (Int.ofNat 0) (sl fl h) (Int.ofNat h.length) (Int.ofNat 0) k (sl fl h) (sl fl' w)) (by kernel_rfl) ?_
 rw [l51 (puN n) 1000000 fl fl' k h w hh hw 1000000 0 0 (by omega) (by omega) (by simp)]
 simp

theorem growI (l:List Int) (h:l.length < 1000):growC 1 8 l.length (2 * l.length) 1 (l.map I) = true:=by
 unfold growC
 have e:(2 * l.length) / 2 = l.length:=by omega
 have e2:(2 * l.length) % 2 = 0:=by omega
 rw [e,e2,roomyS (by omega)]
 have b1:Nat.ble (l.length + 1) l.length = false:=by rw [ble_eq];simp
 have b2:Nat.ble (0 + l.length * 1) (len (l.map I)) = true:=by rw [ble_eq];simp
 have b3:Nat.beq (0 + l.length * 1) (len (l.map I)) = true:=by simp
 rw [b1,b2,b3];rfl
theorem end56 (pu:PureF) (n c:Nat) (r:List Int):m56_0 pu n r.length c (r.map I) = some (S 0 r):=by
 unfold m56_0
 have t:=takeI' r r.length rfl
 rw [t]
 simp only [allL_eq,closedI,bb_true,ble_eq,len_eq,List.length_map,Nat.zero_add,Nat.mul_one,Nat.le_refl,decide_true,an_eq,Bool.true_and]
 rfl
theorem l56 (pu : PureF) (n fl fl' : Nat) (k : Int) (h w : List Int) (hh : h.length ≤ 10) (hw : w.length = h.length) : ∀ (f i : Nat) (r : List Int), h.length - i < f → i ≤ h.length → r.length ≤ i →
 l56_1 pu n f r.length (2 * r.length) (Int.ofNat i) k (sl fl h) (sl fl' w) (r.map I) = some (S 0 (r ++ wr (h.drop i) (w.drop i) i)):=by
 intro f
 induction f with
 | zero=>intro i r hi;omega
 | succ f ih =>
  intro i r hi hil hr
  show b56_1 pu n (l56_1 pu n f) _ _ _ _ _ _ _ = _
  unfold b56_1
  rw [allL_eq,closedI,bb_true]
  by_cases hlt:i < h.length
  ·have hlw : i < w.length := by omega
   have e1:h.drop i = h[i] :: h.drop (i + 1):=List.drop_eq_getElem_cons hlt
   have e2:w.drop i = w[i] :: w.drop (i + 1):=List.drop_eq_getElem_cons hlw
   have ea:appL (dropL 0 (r.map I)) [I (Int.ofNat i)] = (r ++ [(i:Int)]).map I:=by simp
   rw [sl_n,lt_true hlt]
   simp only [bb_true,toN_mk,oo_some,sl_n,sl_cs,blt_eq,hlt,hlw,decide_true,an_eq,Bool.true_and,nthL_eq,Nat.mul_one,getI h i hlt,getI w i hlw,toI_mk,m56_2,wrapS i (by omega:i < 1000000),growI r (by omega),ea,allL_eq,closedI]
   rw [e1,e2]
   by_cases hx:h[i] = w[i]
   ·have : nt (ieq h[i] w[i]) = false := by simp [ieq_eq, hx]
    rw [this,bb_false,ih (i + 1) r (by omega) (by omega) (by omega)]
    simp only [wr,if_pos hx]
   ·have : nt (ieq h[i] w[i]) = true := by simp [ieq_eq, hx]
    have hl:(r ++ [(i:Int)]).length = r.length + 1:=by simp
    have:=ih (i + 1) (r ++ [(i:Int)]) (by omega) (by omega) (by omega)
    rw [hl] at this
    simp only [*,bb_true,bb_false,Nat.add_zero]
    simp only [wr,if_neg hx,List.append_assoc,List.singleton_append]
  ·have : i = h.length := by omega
   subst this
   rw [sl_n,lt_false hlt,bb_false,List.drop_of_length_le (Nat.le_refl _),end56]
   simp [wr]
theorem p56 (n fl fl':Nat) (k:Int) (h w:List Int) (hh:h.length≤10) (hw:w.length = h.length):puN (n + 1) 56 [tr fl fl' k h w] = some (S 0 (wr h w 0)):=by
 refine Eq.trans (b:=l56_1 (puN n) 1000000 1000000 0 0 (Int.ofNat 0) k (sl fl h) (sl fl' w) (([]:List Int).map I)) (by kernel_rfl) ?_
 have:=l56 (puN n) 1000000 fl fl' k h w hh hw 1000000 0 [] (by omega) (by omega) (by simp)
 simpa using this
end Go.MdFM
namespace Go.MdM
section
variable (N:Nat) (H W:Nat→Int)
abbrev PS:=Nat→Bool
def els (S:PS):List Nat:=(List.range N).filter S
def cn (S:PS) (f:Nat→Int) (x:Int):Nat:=(List.range N).countP (fun i=>S i && f i == x)
def card (S:PS):Nat:=(List.range N).countP S
def Ev (S:PS):Prop:=∀ x,cn N S H x = cn N S W x
def del (S:PS) (i:Nat):PS:=fun j=>S j && !(j == i)
def rem (S:PS) (l:List Nat):PS:=fun j=>S j && !(l.contains j)
def mx (l:List Nat):Nat:=l.foldl max 0
noncomputable def one (p:Prop):Nat:=@ite _ p (Classical.propDecidable p) 1 0
noncomputable def Mf : Nat → PS → Nat
 | 0,_=>0
 | k + 1,S=>mx ((els N S).map fun i=>Mf k (del S i)) + one (Ev N H W S)
noncomputable def M (S:PS):Nat:=Mf N H W (card N S) S
end
variable {N:Nat} {H W:Nat→Int}
theorem one_t {p:Prop} (h:p):one p = 1:=if_pos h
theorem one_f {p:Prop} (h:¬ p):one p = 0:=if_neg h
theorem one_le (p:Prop):one p≤1:=by by_cases h:p;rw [one_t h];exact Nat.le_refl _;rw [one_f h];exact Nat.zero_le _
theorem mem_els {S:PS} {i:Nat}:i ∈ els N S↔i < N∧S i = true:=by simp [els]
theorem mx_fold (l:List Nat) (a:Nat):l.foldl max a = max a (mx l):=by
 unfold mx
 induction l generalizing a with
 | nil=>simp
 | cons b l ih=>simp only [List.foldl_cons];rw [ih,ih (max 0 b)];omega
theorem mx_cons (a:Nat) (l:List Nat):mx (a :: l) = max a (mx l):=by
 show List.foldl max (max 0 a) l = _
 rw [mx_fold];omega
theorem mx_le {l:List Nat} {b:Nat} (h:∀ a ∈ l,a≤b):mx l≤b:=by
 induction l with
 | nil=>exact Nat.zero_le _
 | cons a l ih =>
  rw [mx_cons]
  have:=h a (by simp)
  have:=ih (fun x hx=>h x (by simp [hx]))
  omega
theorem le_mx {l:List Nat} {a:Nat} (h:a ∈ l):a≤mx l:=by
 induction l with
 | nil=>cases h
 | cons b l ih =>
  rw [mx_cons]
  rcases List.mem_cons.1 h with rfl | h
  ·omega
  ·have:=ih h;omega
theorem mx_mem {l:List Nat} (h:mx l ≠ 0):mx l ∈ l:=by
 induction l with
 | nil=>exact absurd rfl h
 | cons b l ih =>
  rw [mx_cons] at h ⊢
  by_cases hb:mx l≤b
  ·rw [show max b (mx l) = b by omega];simp
  ·have := ih (by omega)
   rw [show max b (mx l) = mx l by omega];simp [this]
theorem countP_split {l:List Nat} {p q r:Nat→Bool} (h:∀ i ∈ l,p i = (q i || r i)) (hd:∀ i ∈ l,¬ (q i = true∧r i = true)):l.countP p = l.countP q + l.countP r:=by
 induction l with
 | nil=>rfl
 | cons a l ih =>
  have h1:=h a (by simp)
  have h2:=hd a (by simp)
  have:=ih (fun i hi=>h i (by simp [hi])) (fun i hi=>hd i (by simp [hi]))
  simp only [List.countP_cons,this]
  cases hq:q a <;> cases hr:r a <;> simp [hq,hr] at h1 h2 <;> simp [h1] <;> omega
theorem cn_split {S A B:PS} (f:Nat→Int) (x:Int) (h:∀ i,i < N→S i = (A i || B i)) (hd:∀ i,i < N→¬ (A i = true∧B i = true)):cn N S f x = cn N A f x + cn N B f x:=by
 unfold cn
 apply countP_split
 ·intro i hi
  rw [h i (by simpa using hi)]
  cases A i <;> cases B i <;> simp
 ·intro i hi hc
  exact hd i (by simpa using hi) (by simp at hc;exact ⟨hc.1.1,hc.2.1⟩)
theorem card_split {S A B:PS} (h:∀ i,i < N→S i = (A i || B i)) (hd:∀ i,i < N→¬ (A i = true∧B i = true)):card N S = card N A + card N B:=by
 unfold card
 apply countP_split
 ·intro i hi;exact h i (by simpa using hi)
 ·intro i hi;exact hd i (by simpa using hi)
theorem countP_one (N i:Nat) (h:i < N) (p:Nat→Bool):(List.range N).countP (fun j=>(j == i) && p j) = if p i then 1 else 0:=by
 induction N with
 | zero=>omega
 | succ n ih =>
  rw [List.range_succ,List.countP_append]
  by_cases hi:i < n
  ·rw [ih hi]
   have:(n == i) = false:=by simp;omega
   simp [this]
  ·have : i = n := by omega
   subst this
   have:(List.range i).countP (fun j=>(j == i) && p j) = 0:=by
    rw [List.countP_eq_zero];intro a ha;simp at ha;simp;intro h;omega
   rw [this];simp
theorem cn_del {S:PS} {i:Nat} (hi:i < N) (hs:S i = true) (f:Nat→Int) (x:Int):cn N S f x = cn N (del S i) f x + if f i = x then 1 else 0:=by
 rw [cn_split (A:=del S i) (B:=fun j=>j == i) f x]
 ·unfold cn
  rw [countP_one N i hi (fun j=>f j == x)]
  by_cases e:f i = x <;> simp [e]
 ·intro j hj; unfold del; by_cases h : j = i
  ·subst h;simp [hs]
  ·simp only [beq_eq_false_iff_ne.2 h,Bool.not_false,Bool.and_true,Bool.or_false]
 ·intro j hj;simp [del]
theorem card_del {S:PS} {i:Nat} (hi:i < N) (hs:S i = true):card N S = card N (del S i) + 1:=by
 rw [card_split (A:=del S i) (B:=fun j=>j == i)]
 ·congr 1; unfold card
  have:=countP_one N i hi (fun j=>true)
  simpa using this
 ·intro j hj; unfold del; by_cases h : j = i
  ·subst h;simp [hs]
  ·simp only [beq_eq_false_iff_ne.2 h,Bool.not_false,Bool.and_true,Bool.or_false]
 ·intro j hj;simp [del]
theorem card_zero {S:PS} (h:card N S = 0):∀ i,i < N→S i = false:=by
 intro i hi
 unfold card at h
 rw [List.countP_eq_zero] at h
 simpa using h i (by simpa using hi)
theorem card_pos {S:PS} {i:Nat} (hi:i < N) (hs:S i = true):0 < card N S:=by
 have:=card_del hi hs;omega
theorem els_len (S:PS):(els N S).length = card N S:=by unfold els card;rw [List.countP_eq_length_filter]

theorem M_eq (S:PS) (h:card N S ≠ 0):M N H W S = mx ((els N S).map fun i=>M N H W (del S i)) + one (Ev N H W S):=by
 obtain ⟨k,hk⟩:=Nat.exists_eq_succ_of_ne_zero h
 unfold M
 rw [hk]
 show mx ((els N S).map fun i=>Mf N H W k (del S i)) + _ = _
 congr 2
 apply List.map_congr_left
 intro i hi
 have:=mem_els.1 hi
 have:=card_del this.1 this.2
 rw [show card N (del S i) = k by omega]
theorem M_zero {S:PS} (h:card N S = 0):M N H W S = 0:=by unfold M;rw [h];rfl
theorem M_del {S:PS} {i:Nat} (hi:i < N) (hs:S i = true):M N H W (del S i)≤M N H W S:=by
 rw [M_eq S (by have:=card_pos hi hs;omega)]
 have:=le_mx (List.mem_map.2 ⟨i,mem_els.2 ⟨hi,hs⟩,rfl⟩:M N H W (del S i) ∈ (els N S).map fun i=>M N H W (del S i))
 omega
theorem M_step {S:PS} {i:Nat} (hi:i < N) (hs:S i = true) (he:Ev N H W S):M N H W (del S i) + 1≤M N H W S:=by
 rw [M_eq S (by have:=card_pos hi hs;omega),one_t he]
 have:=le_mx (List.mem_map.2 ⟨i,mem_els.2 ⟨hi,hs⟩,rfl⟩:M N H W (del S i) ∈ (els N S).map fun i=>M N H W (del S i))
 omega
def Sub (N:Nat) (A B:PS):Prop:=∀ i,i < N→A i = true→B i = true
theorem els_congr {A B:PS} (h:∀ i,i < N→A i = B i):els N A = els N B:=by
 unfold els;apply List.filter_congr;intro i hi;exact h i (by simpa using hi)
theorem card_congr {A B:PS} (h:∀ i,i < N→A i = B i):card N A = card N B:=by rw [←els_len,←els_len,els_congr h]
theorem cn_congr {A B:PS} (h:∀ i,i < N→A i = B i) (f:Nat→Int) (x:Int):cn N A f x = cn N B f x:=by
 unfold cn;apply List.countP_congr;intro i hi;rw [h i (by simpa using hi)]
theorem Ev_congr {A B:PS} (h:∀ i,i < N→A i = B i):Ev N H W A↔Ev N H W B:=by
 unfold Ev;constructor <;> intro g x
 ·rw [←cn_congr h,←cn_congr h];exact g x
 ·rw [cn_congr h,cn_congr h];exact g x
theorem del_congr {A B:PS} (h:∀ i,i < N→A i = B i) (k:Nat):∀ i,i < N→del A k i = del B k i:=by intro i hi;unfold del;rw [h i hi]
theorem Mf_congr : ∀ (k : Nat) {A B : PS}, (∀ i, i < N → A i = B i) → Mf N H W k A = Mf N H W k B
 | 0,_,_,_=>rfl
 | k + 1, A, B, h => by
  unfold Mf
  rw [els_congr h,show one (Ev N H W A) = one (Ev N H W B) by rw [propext (Ev_congr h)]]
  congr 2
  apply List.map_congr_left
  intro i hi
  exact Mf_congr k (del_congr h i)
theorem M_congr {A B:PS} (h:∀ i,i < N→A i = B i):M N H W A = M N H W B:=by unfold M;rw [card_congr h];exact Mf_congr _ h
theorem Sub.card {A B:PS} (h:Sub N A B):card N B = card N A + card N (fun i=>B i && !A i):=by
 apply card_split
 ·intro i hi;have:=h i hi;cases hA:A i <;> cases hB:B i <;> simp_all
 ·intro i hi;simp;intro h1 _;exact h1
theorem Sub.eq {A B:PS} (h:Sub N A B) (hc:Go.MdM.card N B≤Go.MdM.card N A):∀ i,i < N→A i = B i:=by
 have:=h.card
 have h0:=card_zero (show Go.MdM.card N (fun i=>B i && !A i) = 0 by omega)
 intro i hi
 have:=h0 i hi;have:=h i hi
 cases hA:A i <;> cases hB:B i <;> simp_all
theorem Sub.ex {A B:PS} (h:Sub N A B) (hc:Go.MdM.card N A < Go.MdM.card N B):∃ i,i < N∧B i = true∧A i = false:=by
 apply Classical.byContradiction
 intro hn
 have:Go.MdM.card N B = Go.MdM.card N A:=card_congr (fun i hi=>by
  have:=h i hi
  cases hA:A i <;> cases hB:B i <;> simp_all)
 omega
theorem M_mono:∀ (d:Nat) {A B:PS},Sub N A B→card N B≤card N A + d→M N H W A≤M N H W B:=by
 intro d
 induction d with
 | zero=>intro A B h hc;rw [M_congr (h.eq (by omega))];exact Nat.le_refl _
 | succ d ih =>
  intro A B h hc
  by_cases hl:card N A < card N B
  ·obtain ⟨i, hi, hb, ha⟩ := h.ex hl
   have:=card_del hi hb
   have h2:Sub N A (del B i):=by
    intro j hj hA;unfold del
    have:=h j hj hA
    by_cases e:j = i
    ·subst e;rw [hA] at ha;cases ha
    ·simp [this,e]
   exact Nat.le_trans (ih h2 (by omega)) (M_del hi hb)
  ·exact ih h (by omega)
theorem Sub.M {A B:PS} (h:Sub N A B):M N H W A≤M N H W B:=M_mono (Go.MdM.card N B) h (by omega)
theorem M_more {A B:PS} {i:Nat} (h:Sub N A B) (hi:i < N) (hb:B i = true) (ha:A i = false) (he:Ev N H W B):M N H W A + 1≤M N H W B:=by
 have h2:Sub N A (del B i):=by
  intro j hj hA;unfold del
  have:=h j hj hA
  by_cases e:j = i
  ·subst e;rw [hA] at ha;cases ha
  ·simp [this,e]
 exact Nat.le_trans (Nat.succ_le_succ h2.M) (M_step hi hb he)
theorem Ev_diff {A B:PS} (h:Sub N A B) (ha:Ev N H W A) (hb:Ev N H W B):Ev N H W (fun i=>B i && !A i):=by
 intro x
 have s:∀ f:Nat→Int,cn N B f x = cn N A f x + cn N (fun i=>B i && !A i) f x:=by
  intro f
  apply cn_split
  ·intro i hi;have:=h i hi;cases hA:A i <;> cases hB:B i <;> simp_all
  ·intro i hi;simp;intro h1 _;exact h1
 have:=s H;have:=s W;have:=ha x;have:=hb x
 omega
theorem M_ex:∀ (k:Nat) (S:PS),card N S≤k→∃ T,Sub N T S∧Ev N H W T∧M N H W T = M N H W S:=by
 intro k
 induction k with
 | zero =>
  intro S h
  have h0:=card_zero (show card N S = 0 by omega)
  refine ⟨S,fun _ _ h=>h,?_,rfl⟩
  intro x
  have:∀ f,cn N S f x = 0:=by
   intro f;unfold cn;rw [List.countP_eq_zero];intro i hi;rw [h0 i (by simpa using hi)];simp
  rw [this,this]
 | succ k ih =>
  intro S h
  by_cases he:Ev N H W S
  ·exact ⟨S,fun _ _ h=>h,he,rfl⟩
  ·by_cases hz : card N S = 0
   ·exact ih S (by omega)
   have hM:=M_eq (H:=H) (W:=W) S hz
   rw [one_f he,Nat.add_zero] at hM
   by_cases h0:mx ((els N S).map fun i=>M N H W (del S i)) = 0
   ·rw [h0] at hM
    refine ⟨fun _=>false,fun i _ h=>(by cases h),fun x=>by simp [cn],?_⟩
    rw [hM];exact M_zero (by simp [card])
   ·obtain ⟨i, hi, hm⟩ := List.mem_map.1 (mx_mem h0)
    obtain ⟨hi,hs⟩:=mem_els.1 hi
    have:=card_del hi hs
    obtain ⟨T,hT,hE,e⟩:=ih (del S i) (by omega)
    refine ⟨T,fun j hj h=>?_,hE,by rw [e,hM,←hm]⟩
    have:=hT j hj h
    unfold del at this
    simp at this;exact this.1
end Go.MdM
namespace Go.MdM
section
variable (N:Nat) (H W:Nat→Int)
def Rn (Q : PS → Prop) (f : Nat) : PS → Nat → List Nat → Prop
 | R,last,[]=>W last = H f∧Q R
 | R,last,i :: e=>i < N∧R i = true∧H i = W last∧Rn Q f (del R i) i e
def llt : List Nat → List Nat → Prop
 | [],_ :: _=>True
 | a :: x,b :: y=>a < b∨(a = b∧llt x y)
 | _,[]=>False
noncomputable def dfs (Q : PS → Prop) (f : Nat) : Nat → PS → Nat → Option (List Nat)
 | 0,_,_=>none
 | k + 1,R,last=>@ite _ (W last = H f∧Q R) (Classical.propDecidable _) (some []) ((els N R).findSome? fun i=>if H i = W last then (dfs Q f k (del R i) i).map (i :: ·) else none)
def Dv : PS → List (List Nat) → Prop
 | S,[]=>∀ i,i < N→S i = false
 | S,r :: L=>∃ f e,r = f :: e∧(f < N∧S f = true∧∀ j,j < f→S j = false)∧Rn N H W (fun _=>True) f (del S f) f e∧Dv (rem S r) L
def Qs (S:PS):PS→Prop:=fun R=>Ev N H W R∧M N H W R + 1 = M N H W S
noncomputable def gr : Nat → PS → List (List Nat)
 | 0,_=>[]
 | k + 1, S => match els N S with
  | []=>[]
  | f :: _=>(f :: (dfs N H W (Qs N H W S) f (card N S + 1) (del S f) f).getD []) :: gr k (rem S (f :: (dfs N H W (Qs N H W S) f (card N S + 1) (del S f) f).getD []))
def bef : List (List Nat) → List (List Nat) → Prop
 | a :: x,b :: y=>llt a b∨(a = b∧bef x y)
 | _,_=>False
end
variable {N:Nat} {H W:Nat→Int}
theorem rem_nil (R:PS):rem R [] = R:=by funext j;simp [rem]
theorem rem_cons (R:PS) (i:Nat) (e:List Nat):rem R (i :: e) = rem (del R i) e:=by
 funext j;simp only [rem,del,List.contains_cons]
 cases R j <;> cases j == i <;> cases e.contains j <;> rfl
theorem rem_app (R:PS) (a b:List Nat):rem R (a ++ b) = rem (rem R a) b:=by
 funext j;simp only [rem]
 cases h:R j <;> simp
theorem Rn_iff {Q : PS → Prop} {f : Nat} : ∀ (e : List Nat) (R : PS) (last : Nat), Rn N H W Q f R last e ↔ Rn N H W (fun _ => True) f R last e ∧ Q (rem R e)
 | [],R,last=>by rw [rem_nil];simp [Rn]
 | i :: e, R, last => by
  rw [rem_cons]
  have:=Rn_iff (Q:=Q) (f:=f) e (del R i) i
  simp only [Rn,this,and_assoc]
theorem Rn_mem {Q : PS → Prop} {f : Nat} : ∀ (e : List Nat) (R : PS) (last : Nat), Rn N H W Q f R last e → ∀ i ∈ e, i < N ∧ R i = true
 | [],_,_,_,i,h=>by cases h
 | j :: e, R, last, hr, i, h => by
  obtain ⟨h1,h2,_,h4⟩:=hr
  rcases List.mem_cons.1 h with rfl | h
  ·exact ⟨h1,h2⟩
  ·have := Rn_mem e _ _ h4 i h
   unfold del at this
   simp at this;exact ⟨this.1,this.2.1⟩
theorem Rn_nodup {Q : PS → Prop} {f : Nat} : ∀ (e : List Nat) (R : PS) (last : Nat), Rn N H W Q f R last e → e.Nodup
 | [],_,_,_=>List.nodup_nil
 | j :: e, R, last, hr => by
  obtain ⟨h1,h2,_,h4⟩:=hr
  rw [List.nodup_cons]
  refine ⟨fun h=>?_,Rn_nodup e _ _ h4⟩
  have:=Rn_mem e _ _ h4 j h
  simp [del] at this
theorem Rn_lift {Q Q' : PS → Prop} {f : Nat} {D : PS} : ∀ (e : List Nat) (R R' : PS) (last : Nat), (∀ i, i < N → R' i = (R i || D i)) → (∀ i, i < N → ¬ (R i = true ∧ D i = true)) →
 (∀ X X':PS,Sub N X R→(∀ i,i < N→X' i = (X i || D i))→(∀ i,i < N→¬ (X i = true∧D i = true))→Q X→Q' X')→Rn N H W Q f R last e→Rn N H W Q' f R' last e
 | [],R,R',last,h1,h2,h3,hr=>⟨hr.1,h3 R R' (fun _ _ h=>h) h1 h2 hr.2⟩
 | i :: e, R, R', last, h1, h2, h3, hr => by
  obtain ⟨g1,g2,g3,g4⟩:=hr
  refine ⟨g1,by rw [h1 i g1,g2];rfl,g3,Rn_lift (D:=D) e (del R i) (del R' i) i ?_ ?_ ?_ g4⟩
  ·intro j hj; unfold del; rw [h1 j hj]
   have:=h2 i g1
   by_cases e:j = i
   ·subst e;rw [g2] at this;simp at this;simp [this]
   ·simp only [beq_eq_false_iff_ne.2 e,Bool.not_false,Bool.and_true]
  ·intro j hj hc;unfold del at hc;simp at hc;exact h2 j hj ⟨hc.1.1,hc.2⟩
  ·intro X X' hs;exact h3 X X' (fun j hj h=>by have:=hs j hj h;unfold del at this;simp at this;exact this.1)
theorem Rn_bal {f : Nat} : ∀ (e : List Nat) (R : PS) (last : Nat), Rn N H W (Ev N H W) f R last e → ∀ x, cn N R H x + (if H f = x then 1 else 0) = cn N R W x + (if W last = x then 1 else 0)
 | [],R,last,hr,x=>by rw [hr.1,hr.2 x]
 | i :: e, R, last, hr, x => by
  obtain ⟨g1,g2,g3,g4⟩:=hr
  have:=Rn_bal e _ _ g4 x
  rw [cn_del g1 g2 H x,cn_del g1 g2 W x,g3]
  omega
theorem ring_in {f:Nat}:∀ (k:Nat) (R:PS) (last:Nat),card N R≤k→(∀ x,cn N R H x + (if H f = x then 1 else 0) = cn N R W x + (if W last = x then 1 else 0))→∃ e,Rn N H W (Ev N H W) f R last e:=by
 intro k
 induction k with
 | zero =>
  intro R last hk hb
  have h0:=card_zero (show card N R = 0 by omega)
  have hc:∀ (g:Nat→Int) x,cn N R g x = 0:=by
   intro g x;unfold cn;rw [List.countP_eq_zero];intro i hi;rw [h0 i (by simpa using hi)];simp
  refine ⟨[],?_,fun x=>by rw [hc,hc]⟩
  have:=hb (W last)
  rw [hc,hc] at this
  by_cases h:H f = W last
  ·exact h.symm
  ·simp [h] at this
 | succ k ih =>
  intro R last hk hb
  by_cases h:W last = H f
  ·refine ⟨[], h, fun x => ?_⟩
   have:=hb x
   rw [h] at this;omega
  ·have := hb (W last)
   simp only [if_true,Ne.symm h,if_false] at this
   have hp:0 < cn N R H (W last):=by omega
   unfold cn at hp
   rw [List.countP_pos_iff] at hp
   obtain ⟨i,hi,hp⟩:=hp
   have hi:i < N:=by simpa using hi
   simp at hp
   obtain ⟨hr,hh⟩:=hp
   have:=card_del hi hr
   obtain ⟨e, he⟩ := ih (del R i) i (by omega) (by
    intro x
    have:=hb x
    rw [cn_del hi hr H x,cn_del hi hr W x,hh] at this
    omega)
   exact ⟨i :: e,hi,hr,hh,he⟩
theorem Ev_union {A B S:PS} (h:∀ i,i < N→S i = (A i || B i)) (hd:∀ i,i < N→¬ (A i = true∧B i = true)) (ha:Ev N H W A) (hb:Ev N H W B):Ev N H W S:=by
 intro x;rw [cn_split H x h hd,cn_split W x h hd,ha x,hb x]
theorem ring_best:∀ (k:Nat) (S:PS) (f:Nat),card N S≤k→Ev N H W S→f < N→S f = true→∃ e,Rn N H W (Qs N H W S) f (del S f) f e:=by
 intro k
 induction k with
 | zero=>intro S f hk he hf hs;have:=card_pos hf hs;omega
 | succ k ih =>
  intro S f hk he hf hs
  have hM:=M_eq (H:=H) (W:=W) S (Nat.ne_of_gt (card_pos hf hs))
  rw [one_t he] at hM
  have hi:∃ i,i < N∧S i = true∧M N H W (del S i) + 1 = M N H W S:=by
   by_cases h0:mx ((els N S).map fun i=>M N H W (del S i)) = 0
   ·refine ⟨f, hf, hs, ?_⟩
    have:=le_mx (List.mem_map.2 ⟨f,mem_els.2 ⟨hf,hs⟩,rfl⟩:M N H W (del S f) ∈ (els N S).map fun i=>M N H W (del S i))
    omega
   ·obtain ⟨i, hi, hm⟩ := List.mem_map.1 (mx_mem h0)
    obtain ⟨hi,hs⟩:=mem_els.1 hi
    exact ⟨i,hi,hs,by rw [hM,←hm]⟩
  obtain ⟨i,hi,hsi,hMi⟩:=hi
  obtain ⟨T,hT,hTe,hTM⟩:=M_ex (H:=H) (W:=W) (card N (del S i)) (del S i) (Nat.le_refl _)
  have hTi:T i = false:=by
   cases h:T i
   ·rfl
   ·have:=hT i hi h;simp [del] at this
  have hTS:Sub N T S:=by intro j hj h;have:=hT j hj h;simp [del] at this;exact this.1
  have huni:∀ j,j < N→S j = (T j || (S j && !T j)):=by
   intro j hj;have:=hTS j hj;cases h1:T j <;> cases h2:S j <;> simp_all
  have hdis:∀ j,j < N→¬ (T j = true∧(S j && !T j) = true):=by intro j _ h;simp at h;simp [h.1] at h
  have hUe:Ev N H W (fun j=>S j && !T j):=Ev_diff hTS hTe he
  by_cases hf2:T f = true
  ·have hc : card N S = card N T + card N (fun j => S j && !T j) := hTS.card
   have:0 < card N (fun j=>S j && !T j):=card_pos hi (by simp [hsi,hTi])
   obtain ⟨e,hr⟩:=ih T f (by omega) hTe hf hf2
   refine ⟨e,Rn_lift (D:=fun j=>S j && !T j) e (del T f) (del S f) f ?_ ?_ ?_ hr⟩
   ·intro j hj; unfold del; have := huni j hj
    by_cases e:j = f
    ·subst e;simp [hf2]
    ·simp only [beq_eq_false_iff_ne.2 e,Bool.not_false,Bool.and_true];exact this
   ·intro j hj h;unfold del at h;simp at h;simp [h.1.1] at h
   ·intro X X' hX hu hd hq
    have hX':Sub N X X':=by intro j hj h;rw [hu j hj,h];rfl
    have e':=Ev_union hu hd hq.1 hUe
    have hxi:X i = false:=by
     cases h:X i
     ·rfl
     ·have:=hX i hi h;simp [del,hTi] at this
    have m1:=M_more hX' hi (by rw [hu i hi];simp [hsi,hTi]) hxi e'
    have m2:=hq.2
    have hfx:X' f = false:=by
     rw [hu f hf]
     cases h:X f
     ·simp [hf2]
     ·have:=hX f hf h;simp [del] at this
    have m3 := M_more (A := X') (B := S) (by
     intro j hj h;rw [hu j hj] at h
     cases h1:X j
     ·rw [h1] at h;simp at h;exact h.1
     ·have:=hX j hj h1;simp [del] at this;exact hTS j hj this.1) hf hs hfx he
    exact ⟨e',by omega⟩
  ·have hf2 : T f = false := by simpa using hf2
   have hUf:(fun j=>S j && !T j) f = true:=by simp [hs,hf2]
   obtain ⟨e, hr⟩ := ring_in (H := H) (W := W) (f := f) (card N (del (fun j => S j && !T j) f)) (del (fun j => S j && !T j) f) f (Nat.le_refl _) (by
    intro x
    have:=hUe x
    rw [cn_del hf hUf H x,cn_del hf hUf W x] at this
    exact this)
   refine ⟨e,Rn_lift (D:=T) e (del (fun j=>S j && !T j) f) (del S f) f ?_ ?_ ?_ hr⟩
   ·intro j hj; unfold del
    have:=hTS j hj
    by_cases e:j = f
    ·subst e;simp [hf2]
    ·simp only [beq_eq_false_iff_ne.2 e, Bool.not_false, Bool.and_true]
     cases h1:T j
     ·simp
     ·rw [this h1];rfl
   ·intro j hj h;unfold del at h;simp at h;simp [h.2] at h
   ·intro X X' hX hu hd hq
    have e':=Ev_union hu hd hq hTe
    have hTX:Sub N T X':=by intro j hj h;rw [hu j hj,h];simp
    have m1:=hTX.M (H:=H) (W:=W)
    have hfx:X' f = false:=by
     rw [hu f hf,hf2]
     cases h:X f
     ·rfl
     ·have:=hX f hf h;simp [del] at this
    have m3 := M_more (A := X') (B := S) (by
     intro j hj h;rw [hu j hj] at h
     cases h1:X j
     ·rw [h1] at h;exact hTS j hj (by simpa using h)
     ·have:=hX j hj h1;simp [del] at this;exact this.1.1) hf hs hfx he
    exact ⟨e',by omega⟩
end Go.MdM
namespace Go.MdM
variable {N:Nat} {H W:Nat→Int}
theorem llt_irr : ∀ (a : List Nat), ¬ llt a a
 | [],h=>h
 | _ :: a,h=>by rcases h with h | h;exact Nat.lt_irrefl _ h;exact llt_irr a h.2
theorem llt_asym : ∀ (a b : List Nat), llt a b → ¬ llt b a
 | [],[],h,_=>h
 | [],_ :: _,_,h=>h
 | _ :: _,[],h,_=>h
 | x :: a, y :: b, h, g => by
  rcases h with h | h <;> rcases g with g | g
  ·omega
  ·omega
  ·omega
  ·exact llt_asym a b h.2 g.2
theorem bef_asym : ∀ (a b : List (List Nat)), bef a b → ¬ bef b a
 | [],_,h,_=>h
 | _ :: _,[],h,_=>h
 | x :: a, y :: b, h, g => by
  rcases h with h | h <;> rcases g with g | g
  ·exact llt_asym _ _ h g
  ·rw [g.1] at h;exact llt_irr _ h
  ·rw [h.1] at g;exact llt_irr _ g
  ·exact bef_asym a b h.2 g.2
theorem els_lt (S:PS):(els N S).Pairwise (· < ·):=by unfold els;exact List.pairwise_lt_range.filter _
theorem dfs_ok {Q : PS → Prop} {f : Nat} : ∀ (k : Nat) (R : PS) (last : Nat), card N R < k →
 (∀ e,dfs N H W Q f k R last = some e→Rn N H W Q f R last e∧∀ e',Rn N H W Q f R last e'→e = e'∨llt e e')∧(dfs N H W Q f k R last = none→∀ e',¬ Rn N H W Q f R last e'):=by
 intro k
 induction k with
 | zero=>intro R last h;omega
 | succ k ih =>
  intro R last hk
  unfold dfs
  by_cases hc:W last = H f∧Q R
  ·rw [if_pos hc]
   refine ⟨fun e he=>?_,fun h=>by cases h⟩
   injection he with he;subst he
   refine ⟨hc,fun e' _=>?_⟩
   cases e' with
   | nil=>exact .inl rfl
   | cons=>exact .inr trivial
  ·rw [if_neg hc]
   have step:∀ e',Rn N H W Q f R last e'→∃ i e2,e' = i :: e2∧i ∈ els N R∧H i = W last∧Rn N H W Q f (del R i) i e2:=by
    intro e' he'
    cases e' with
    | nil=>exact absurd he' hc
    | cons i e2=>exact ⟨i,e2,rfl,mem_els.2 ⟨he'.1,he'.2.1⟩,he'.2.2⟩
   have low:∀ i,i ∈ els N R→card N (del R i) < k:=by
    intro i hi
    obtain ⟨h1,h2⟩:=mem_els.1 hi
    have:=card_del h1 h2
    omega
   constructor
   ·intro e he
    rw [List.findSome?_eq_some_iff] at he
    obtain ⟨l1,i,l2,hl,hi,hn⟩:=he
    have hmem:i ∈ els N R:=by rw [hl];simp
    by_cases hW:H i = W last
    ·rw [if_pos hW] at hi
     cases hd:dfs N H W Q f k (del R i) i with
     | none=>rw [hd] at hi;cases hi
     | some e1 =>
      rw [hd] at hi;injection hi with hi;subst hi
      obtain ⟨a1,a2⟩:=(ih (del R i) i (low i hmem)).1 e1 hd
      have hm:=mem_els.1 hmem
      refine ⟨⟨hm.1,hm.2,hW,a1⟩,?_⟩
      intro e' he'
      obtain ⟨j,e2,rfl,hj,hWj,hr⟩:=step e' he'
      have hp:=els_lt (N:=N) R
      rw [hl,List.pairwise_append,List.pairwise_cons] at hp
      rw [hl] at hj
      rcases List.mem_append.1 hj with hj | hj
      ·have := hn j hj
       rw [if_pos hWj,Option.map_eq_none_iff] at this
       exact absurd hr ((ih (del R j) j (low j (by rw [hl];simp [hj]))).2 this e2)
      ·rcases List.mem_cons.1 hj with rfl | hj
       ·rcases a2 e2 hr with rfl | h
        ·exact .inl rfl
        ·exact .inr (.inr ⟨rfl,h⟩)
       ·exact .inr (.inl (hp.2.1.1 j hj))
    ·rw [if_neg hW] at hi;cases hi
   ·intro hn e' he'
    rw [List.findSome?_eq_none_iff] at hn
    obtain ⟨j,e2,rfl,hj,hWj,hr⟩:=step e' he'
    have:=hn j hj
    rw [if_pos hWj,Option.map_eq_none_iff] at this
    exact (ih (del R j) j (low j hj)).2 this e2 hr
theorem Dv_le : ∀ (L : List (List Nat)) (S : PS), Dv N H W S L → Ev N H W S ∧ L.length ≤ M N H W S
 | [], S, h => by
  have hc:∀ (g:Nat→Int) x,cn N S g x = 0:=by
   intro g x;unfold cn;rw [List.countP_eq_zero];intro i hi;rw [h i (by simpa using hi)];simp
  exact ⟨fun x=>by rw [hc,hc],Nat.zero_le _⟩
 | r :: L, S, h => by
  obtain ⟨f,e,rfl,⟨h1,h2,h3⟩,h4,h5⟩:=h
  have ih:=Dv_le L _ h5
  rw [rem_cons] at ih
  have hr:Rn N H W (Ev N H W) f (del S f) f e:=Rn_iff e _ _ |>.2 ⟨h4,ih.1⟩
  have hE:Ev N H W S:=by
   intro x
   have:=Rn_bal e _ _ hr x
   rw [cn_del h1 h2 H x,cn_del h1 h2 W x];exact this
  refine ⟨hE,?_⟩
  have:Sub N (rem (del S f) e) S:=by intro j hj h;simp [rem,del] at h;exact h.1.1
  have:=M_more this h1 h2 (by simp [rem,del]) hE
  have:=ih.2
  simp only [List.length_cons];omega
theorem els_first {S:PS} {f:Nat} {l:List Nat} (h:els N S = f :: l):f < N∧S f = true∧∀ j,j < f→S j = false:=by
 have hm:=mem_els.1 (show f ∈ els N S by rw [h];simp)
 refine ⟨hm.1,hm.2,fun j hj=>?_⟩
 cases hS:S j
 ·rfl
 ·have : j ∈ els N S := mem_els.2 ⟨by omega, hS⟩
  have hp:=els_lt (N:=N) S
  rw [h] at this hp
  rw [List.pairwise_cons] at hp
  rcases List.mem_cons.1 this with rfl | h2
  ·omega
  ·have:=hp.1 j h2;omega
theorem gr_ok : ∀ (k : Nat) (S : PS), card N S ≤ k → Ev N H W S → Dv N H W S (gr N H W k S) ∧ (gr N H W k S).length = M N H W S ∧
 ∀ L,Dv N H W S L→L = gr N H W k S∨L.length < M N H W S∨(L.length = M N H W S∧bef (gr N H W k S) L):=by
 intro k
 induction k with
 | zero =>
  intro S hk hE
  have h0:=card_zero (show card N S = 0 by omega)
  refine ⟨h0,by rw [M_zero (by omega)];rfl,?_⟩
  intro L hL
  cases L with
  | nil=>exact .inl rfl
  | cons r L=>obtain ⟨f,e,rfl,⟨h1,h2,h3⟩,_⟩:=hL;rw [h0 f h1] at h2;cases h2
 | succ k ih =>
  intro S hk hE
  unfold gr
  cases he:els N S with
  | nil =>
   have hc:card N S = 0:=by rw [←els_len,he];rfl
   have h0:=card_zero hc
   refine ⟨h0,by rw [M_zero hc];rfl,?_⟩
   intro L hL
   cases L with
   | nil=>exact .inl rfl
   | cons r L=>obtain ⟨f,e,rfl,⟨h1,h2,h3⟩,_⟩:=hL;rw [h0 f h1] at h2;cases h2
  | cons f l =>
   obtain ⟨f1,f2,f3⟩:=els_first he
   have hcd:=card_del f1 f2
   obtain ⟨d1,d2⟩:=dfs_ok (N:=N) (H:=H) (W:=W) (Q:=Qs N H W S) (f:=f) (card N S + 1) (del S f) f (by omega)
   dsimp only
   cases hd:dfs N H W (Qs N H W S) f (card N S + 1) (del S f) f with
   | none =>
    obtain ⟨e,he⟩:=ring_best (H:=H) (W:=W) (card N S) S f (Nat.le_refl _) hE f1 f2
    exact absurd he (d2 hd e)
   | some e =>
    obtain ⟨g1,g2⟩:=d1 e hd
    obtain ⟨g3,g4⟩:=(Rn_iff e _ _).1 g1
    obtain ⟨g5,g6⟩:=g4
    simp only [Option.getD_some]
    rw [←rem_cons] at g5 g6
    have hsub:Sub N (rem S (f :: e)) (del S f):=by intro j hj h;simp [rem,del] at h ⊢;exact ⟨h.1,h.2.1⟩
    have hcl:card N (rem S (f :: e))≤k:=by
     have:card N (del S f) = card N (rem S (f :: e)) + _:=hsub.card
     omega
    obtain ⟨i1,i2,i3⟩:=ih (rem S (f :: e)) hcl g5
    refine ⟨⟨f,e,rfl,⟨f1,f2,f3⟩,g3,i1⟩,by simp only [List.length_cons,i2];exact g6,?_⟩
    intro L hL
    have hle:=(Dv_le L S hL).2
    cases L with
    | nil=>have:=hL f f1;rw [f2] at this;cases this
    | cons r L =>
     by_cases hlen:(r :: L).length < M N H W S
     ·exact .inr (.inl hlen)
     have hlen:(r :: L).length = M N H W S:=by omega
     obtain ⟨f',e',rfl,⟨a1,a2,a3⟩,a4,a5⟩:=hL
     have hff:f' = f:=by
      rcases Nat.lt_trichotomy f f' with h | h | h
      ·rw [a3 f h] at f2;cases f2
      ·exact h.symm
      ·rw [f3 f' h] at a2;cases a2
     subst hff
     obtain ⟨b1,b2⟩:=Dv_le L _ a5
     have hq:Rn N H W (Qs N H W S) f' (del S f') f' e':=by
      refine (Rn_iff e' _ _).2 ⟨a4,?_⟩
      rw [←rem_cons]
      refine ⟨b1,?_⟩
      have:M N H W (rem S (f' :: e')) + 1≤M N H W S:=M_more (by intro j hj h;simp [rem] at h;exact h.1) f1 f2 (by simp [rem]) hE
      simp only [List.length_cons] at hlen
      omega
     rcases g2 e' hq with rfl | h
     ·simp only [List.length_cons] at hlen
      rcases i3 L a5 with h | h | h
      ·subst h;exact .inl rfl
      ·omega
      ·exact .inr (.inr ⟨hlen,.inr ⟨rfl,h.2⟩⟩)
     ·exact .inr (.inr ⟨hlen,.inl (.inr ⟨rfl,h⟩)⟩)
end Go.MdM
namespace Go.MdM
section
def orb (s : Nat → Nat) : Nat → List Nat → Nat → List Nat
 | 0,ring,_=>ring
 | k + 1,ring,z=>bif ring.contains z then ring else orb s k (ring ++ [z]) (s z)
def nl (s : Nat → Nat) (k : Nat) : List Nat → List Nat → List (List Nat)
 | [],_=>[]
 | p :: ps,met=>bif met.contains p then nl s k ps met else orb s k [] p :: nl s k ps (met ++ orb s k [] p)
def Vd (N:Nat) (H W:Nat→Int) (S:PS) (s:Nat→Nat):Prop:=
 (∀ i,i < N→S i = true→s i < N∧S (s i) = true∧H (s i) = W i)∧∀ i j,i < N→j < N→S i = true→S j = true→s i = s j→i = j
def Sg (s : Nat → Nat) (f : Nat) : Nat → List Nat → Prop
 | last,[]=>s last = f
 | last,i :: e=>s last = i∧Sg s f i e
end
variable {N:Nat} {H W:Nat→Int}
theorem contains_iff (l:List Nat) (x:Nat):l.contains x = true↔x ∈ l:=by simp
theorem not_contains (l:List Nat) (x:Nat):l.contains x = false↔x ∉ l:=by simp
theorem rem_mem {S:PS} {l:List Nat} {i:Nat}:rem S l i = true↔S i = true∧i ∉ l:=by simp [rem]
theorem orb_run {S0 : PS} {s : Nat → Nat} (hv : Vd N H W S0 s) {met : List Nat} (hmet : ∀ i, i < N → S0 i = true → (s i ∈ met ↔ i ∈ met)) {p : Nat} :
 ∀ (k : Nat) (ring : List Nat) (last : Nat), card N (rem S0 (met ++ ring)) < k → p ∈ ring → last ∈ ring → (∀ x ∈ ring, x < N ∧ S0 x = true ∧ x ∉ met) →
  (∀ x ∈ ring,x ≠ p→∃ y ∈ ring,s y = x∧y ≠ last)→(∀ y ∈ ring,y ≠ last→s y ∈ ring) →
  ∃ e,orb s k ring (s last) = ring ++ e∧Rn N H W (fun _=>True) p (rem S0 (met ++ ring)) last e∧Sg s p last e∧(∀ y ∈ ring ++ e,s y ∈ ring ++ e):=by
 intro k
 induction k with
 | zero=>intro ring last h;omega
 | succ k ih =>
  intro ring last hk hp hl hr hpre hpost
  unfold orb
  obtain ⟨l1,l2,l3⟩:=hr last hl
  obtain ⟨v1,v2,v3⟩:=hv.1 last l1 l2
  by_cases hc:s last ∈ ring
  ·have hsp : s last = p := by
    apply Classical.byContradiction
    intro hne
    obtain ⟨y,hy,h1,h2⟩:=hpre _ hc hne
    exact h2 (hv.2 y last (hr y hy).1 l1 (hr y hy).2.1 l2 h1)
   refine ⟨[],?_,⟨by rw [←v3,hsp],trivial⟩,hsp,?_⟩
   ·rw [(contains_iff _ _).2 hc];simp
   ·intro y hy
    rw [List.append_nil] at hy ⊢
    by_cases h:y = last
    ·rw [h];exact hc
    ·exact hpost y hy h
  ·have hm : s last ∉ met := fun h => l3 ((hmet last l1 l2).1 h)
   have hR:rem S0 (met ++ ring) (s last) = true:=rem_mem.2 ⟨v2,by simp [hm,hc]⟩
   have hd:=card_del v1 hR
   have hrem:rem S0 (met ++ (ring ++ [s last])) = del (rem S0 (met ++ ring)) (s last):=by
    rw [←List.append_assoc,rem_app,rem_cons,rem_nil]
   have hll:∀ y ∈ ring,y ≠ s last:=fun y hy h=>hc (h ▸ hy)
   obtain ⟨e, e1, e2, e3, e4⟩ := ih (ring ++ [s last]) (s last) (by rw [hrem]; omega) (by simp [hp]) (by simp)
    (by
      intro x hx
      rcases List.mem_append.1 hx with hx | hx
      ·exact hr x hx
      ·rw [List.mem_singleton.1 hx];exact ⟨v1,v2,hm⟩)
    (by
      intro x hx hxp
      rcases List.mem_append.1 hx with hx | hx
      ·obtain ⟨y, hy, h1, h2⟩ := hpre x hx hxp
       exact ⟨y,by simp [hy],h1,hll y hy⟩
      ·rw [List.mem_singleton.1 hx]
       exact ⟨last,by simp [hl],rfl,hll last hl⟩)
    (by
      intro y hy hne
      rcases List.mem_append.1 hy with hy | hy
      ·by_cases h : y = last
       ·rw [h];simp
       ·have:=hpost y hy h;simp [this]
      ·exact absurd (List.mem_singleton.1 hy) hne)
   refine ⟨s last :: e,?_,⟨v1,hR,v3,by rw [←hrem];exact e2⟩,⟨rfl,e3⟩,?_⟩
   ·rw [(not_contains _ _).2 hc]
    show orb s k (ring ++ [s last]) (s (s last)) = _
    rw [e1];simp
   ·intro y hy
    have:=e4 y (by simpa using hy)
    simpa using this
theorem pigeon : ∀ (l r : List Nat), l.Nodup → (∀ x ∈ l, x ∈ r) → l.length ≤ r.length
 | [],_,_,_=>Nat.zero_le _
 | a :: l, r, hn, h => by
  rw [List.nodup_cons] at hn
  have ha:=h a (by simp)
  have:=pigeon l (r.erase a) hn.2 (fun x hx=>(List.mem_erase_of_ne (fun e=>by subst e;exact hn.1 hx)).2 (h x (by simp [hx])))
  rw [List.length_erase_of_mem ha] at this
  have:=List.length_pos_of_mem ha
  simp only [List.length_cons];omega
theorem closed_back {S0:PS} {s:Nat→Nat} (hv:Vd N H W S0 s):∀ (r:List Nat),r.Nodup→(∀ x ∈ r,x < N∧S0 x = true)→(∀ x ∈ r,s x ∈ r)→∀ i,i < N→S0 i = true→s i ∈ r→i ∈ r:=by
 intro r hn hr hc i hi hs hm
 apply Classical.byContradiction
 intro hni
 have hmap:(r.map s).Nodup:=by
  unfold List.Nodup
  rw [List.pairwise_map]
  exact List.Pairwise.imp_of_mem (fun {a b} ha hb hne h=>hne (hv.2 a b (hr a ha).1 (hr b hb).1 (hr a ha).2 (hr b hb).2 h)) hn
 have hnd:(s i :: r.map s).Nodup:=by
  rw [List.nodup_cons]
  refine ⟨fun h=>?_,hmap⟩
  obtain ⟨j,hj,e⟩:=List.mem_map.1 h
  exact hni ((hv.2 j i (hr j hj).1 hi (hr j hj).2 hs e) ▸ hj)
 have hlen := (pigeon _ r hnd (by
  intro x hx
  rcases List.mem_cons.1 hx with rfl | hx
  ·exact hm
  ·obtain ⟨j,hj,rfl⟩:=List.mem_map.1 hx;exact hc j hj))
 simp at hlen
 omega
theorem Sg_orb {s : Nat → Nat} {p : Nat} {Q : PS → Prop} : ∀ (e : List Nat) (k : Nat) (ring : List Nat) (R : PS) (last : Nat), e.length < k → p ∈ ring → Sg s p last e → Rn N H W Q p R last e → (∀ x ∈ ring, R x = false) →
 orb s k ring (s last) = ring ++ e
 | [], k + 1, ring, R, last, hk, hp, hs, hr, hd => by
  unfold orb
  rw [show s last = p from hs,(contains_iff _ _).2 hp];simp
 | i :: e, k + 1, ring, R, last, hk, hp, hs, hr, hd => by
  unfold orb
  obtain ⟨h1,h2,h3,h4⟩:=hr
  have hi:i ∉ ring:=fun h=>by rw [hd i h] at h2;cases h2
  rw [hs.1,(not_contains _ _).2 hi]
  show orb s k (ring ++ [i]) (s i) = _
  rw [Sg_orb e k (ring ++ [i]) (del R i) i (by simp at hk; omega) (by simp [hp]) hs.2 h4 (by
   intro x hx
   rcases List.mem_append.1 hx with hx | hx
   ·simp [del,hd x hx]
   ·simp [del,List.mem_singleton.1 hx])]
  simp
 | _,0,_,_,_,hk,_,_,_,_=>by omega
theorem nl_ok {S0 : PS} {s : Nat → Nat} (hv : Vd N H W S0 s) {k : Nat} (hk : N < k) : ∀ (ps met : List Nat), ps.Pairwise (· < ·) → (∀ p ∈ ps, p < N ∧ S0 p = true) →
 (∀ i,i < N→S0 i = true→(s i ∈ met↔i ∈ met))→(∀ i,i < N→rem S0 met i = true→i ∈ ps)→Dv N H W (rem S0 met) (nl s k ps met)∧∀ r ∈ nl s k ps met,∃ f e,r = f :: e∧Sg s f f e
 | [], met, hs, hp, hm, ha => by
  refine ⟨fun i hi=>?_,fun r hr=>by cases hr⟩
  cases h:rem S0 met i
  ·rfl
  ·have:=ha i hi h;cases this
 | p :: ps, met, hs, hp, hm, ha => by
  rw [List.pairwise_cons] at hs
  unfold nl
  by_cases hc:p ∈ met
  ·rw [(contains_iff _ _).2 hc]
   exact nl_ok hv hk ps met hs.2 (fun q hq=>hp q (by simp [hq])) hm (fun i hi h=>by
    rcases List.mem_cons.1 (ha i hi h) with rfl | h2
    ·exact absurd hc (rem_mem.1 h).2
    ·exact h2)
  ·rw [(not_contains _ _).2 hc]
   obtain ⟨p1,p2⟩:=hp p (by simp)
   have hle:card N (rem S0 (met ++ [p]))≤N:=by
    unfold card
    have:=List.countP_le_length (p:=rem S0 (met ++ [p])) (l:=List.range N)
    simpa using this
   obtain ⟨k',rfl⟩:∃ k',k = k' + 1:=⟨k - 1,by omega⟩
   have hcc:card N (rem S0 (met ++ [p])) < k':=by
    have hx:rem S0 met p = true:=rem_mem.2 ⟨p2,hc⟩
    have:=card_del p1 hx
    have h2:card N (rem S0 met)≤N:=by
     unfold card
     have:=List.countP_le_length (p:=rem S0 met) (l:=List.range N)
     simpa using this
    rw [rem_app,rem_cons,rem_nil]
    omega
   obtain ⟨e, e1, e2, e3, e4⟩ := orb_run hv hm (p := p) k' [p] p hcc (by simp) (by simp) (by intro x hx; rw [List.mem_singleton.1 hx]; exact ⟨p1, p2, hc⟩)
    (by intro x hx hne;exact absurd (List.mem_singleton.1 hx) hne) (by intro y hy hne;exact absurd (List.mem_singleton.1 hy) hne)
   have horb:orb s (k' + 1) [] p = p :: e:=by
    unfold orb
    simpa using e1
   rw [rem_app,rem_cons,rem_nil] at e2
   have hpe:∀ x ∈ p :: e,x < N∧S0 x = true:=by
    intro x hx
    rcases List.mem_cons.1 hx with rfl | hx
    ·exact ⟨p1,p2⟩
    ·have := Rn_mem e _ _ e2 x hx
     refine ⟨this.1,?_⟩
     have:=this.2
     simp [rem,del] at this;exact this.1.1
   have hnd:(p :: e).Nodup:=by
    rw [List.nodup_cons]
    refine ⟨fun h=>?_,Rn_nodup e _ _ e2⟩
    have:=(Rn_mem e _ _ e2 p h).2
    simp [del] at this
   have hcl:=closed_back hv (p :: e) hnd hpe (by simpa using e4)
   have ih := nl_ok hv hk ps (met ++ p :: e) hs.2 (fun q hq => hp q (by simp [hq]))
    (by
      intro i hi hsi
      have h1:=hm i hi hsi
      have h2:=hcl i hi hsi
      have h3:i ∈ p :: e→s i ∈ p :: e:=fun h=>by simpa using e4 i (by simpa using h)
      simp only [List.mem_append]
      constructor
      ·rintro (h | h)
       ·exact .inl (h1.1 h)
       ·exact .inr (h2 h)
      ·rintro (h | h)
       ·exact .inl (h1.2 h)
       ·exact .inr (h3 h))
    (by
      intro i hi h
      obtain ⟨g1,g2⟩:=rem_mem.1 h
      simp only [List.mem_append,not_or] at g2
      rcases List.mem_cons.1 (ha i hi (rem_mem.2 ⟨g1,g2.1⟩)) with rfl | h2
      ·exact absurd (by simp) g2.2
      ·exact h2)
   rw [horb]
   show Dv N H W (rem S0 met) ((p :: e) :: nl s (k' + 1) ps (met ++ p :: e))∧_
   refine ⟨⟨p,e,rfl,⟨p1,rem_mem.2 ⟨p2,hc⟩,?_⟩,e2,by rw [←rem_app];exact ih.1⟩,?_⟩
   ·intro j hj
    cases h:rem S0 met j
    ·rfl
    ·rcases List.mem_cons.1 (ha j (by omega) h) with rfl | h2
     ·omega
     ·have:=hs.1 j h2;omega
   ·intro r hr
    rcases List.mem_cons.1 hr with rfl | hr
    ·exact ⟨p,e,rfl,e3⟩
    ·exact ih.2 r hr
theorem nl_eq {S0 : PS} {s : Nat → Nat} {k : Nat} (hk : N < k) : ∀ (ps met : List Nat) (L : List (List Nat)), ps.Pairwise (· < ·) → (∀ p ∈ ps, p < N ∧ S0 p = true) →
 (∀ i,i < N→rem S0 met i = true→i ∈ ps)→Dv N H W (rem S0 met) L→(∀ r ∈ L,∃ f e,r = f :: e∧Sg s f f e)→nl s k ps met = L
 | [], met, L, hs, hp, ha, hD, hg => by
  cases L with
  | nil=>rfl
  | cons r L =>
   obtain ⟨f,e,rfl,⟨h1,h2,h3⟩,_⟩:=hD
   have:=ha f h1 h2;cases this
 | p :: ps, met, L, hs, hp, ha, hD, hg => by
  rw [List.pairwise_cons] at hs
  unfold nl
  by_cases hc:p ∈ met
  ·rw [(contains_iff _ _).2 hc]
   exact nl_eq hk ps met L hs.2 (fun q hq=>hp q (by simp [hq])) (fun i hi h=>by
    rcases List.mem_cons.1 (ha i hi h) with rfl | h2
    ·exact absurd hc (rem_mem.1 h).2
    ·exact h2) hD hg
  ·rw [(not_contains _ _).2 hc]
   obtain ⟨p1,p2⟩:=hp p (by simp)
   cases L with
   | nil=>have:=hD p p1;rw [rem_mem.2 ⟨p2,hc⟩] at this;cases this
   | cons r L =>
    obtain ⟨f,e,rfl,⟨h1,h2,h3⟩,h4,h5⟩:=hD
    have hfp:f = p:=by
     rcases Nat.lt_trichotomy f p with h | h | h
     ·rcases List.mem_cons.1 (ha f h1 h2) with rfl | h6
      ·rfl
      ·have:=hs.1 f h6;omega
     ·exact h
     ·have:=h3 p h;rw [rem_mem.2 ⟨p2,hc⟩] at this;cases this
    subst hfp
    obtain ⟨f',e',he,hsg⟩:=hg (f :: e) (by simp)
    injection he with he1 he2;subst he1;subst he2
    have hlen:e.length < N:=by
     have hnd:(f :: e).Nodup:=by
      rw [List.nodup_cons]
      refine ⟨fun h=>?_,Rn_nodup e _ _ h4⟩
      have:=(Rn_mem e _ _ h4 f h).2
      simp [del] at this
     have := (pigeon _ (List.range N) hnd (by
      intro x hx
      rcases List.mem_cons.1 hx with rfl | hx
      ·simpa using h1
      ·simpa using (Rn_mem e _ _ h4 x hx).1))
     simp at this;omega
    obtain ⟨k',rfl⟩:∃ k',k = k' + 1:=⟨k - 1,by omega⟩
    have horb:orb s (k' + 1) [] f = f :: e:=by
     unfold orb
     have:=Sg_orb e k' [f] _ f (by omega) (by simp) hsg h4 (by intro x hx;rw [List.mem_singleton.1 hx];simp [del])
     simpa using this
    rw [horb]
    show (f :: e) :: nl s (k' + 1) ps (met ++ f :: e) = _
    congr 1
    refine nl_eq hk ps (met ++ f :: e) L hs.2 (fun q hq=>hp q (by simp [hq])) ?_ (by rw [rem_app];exact h5) (fun r hr=>hg r (by simp [hr]))
    intro i hi h
    obtain ⟨g1,g2⟩:=rem_mem.1 h
    simp only [List.mem_append,not_or] at g2
    rcases List.mem_cons.1 (ha i hi (rem_mem.2 ⟨g1,g2.1⟩)) with rfl | h2
    ·exact absurd (by simp) g2.2
    ·exact h2
end Go.MdM
