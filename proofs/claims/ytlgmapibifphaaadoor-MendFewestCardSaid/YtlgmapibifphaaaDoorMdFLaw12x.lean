/- Made from wip. -/
import Derived.Test.YtlgmapibifphaaaDoorMdNormx

namespace Go.MdM
def nx (f : Nat) : Nat → List Nat → Nat → Nat
 | _,[],_=>f
 | last,i :: e,j=>bif j == last then i else nx f i e j
variable {N:Nat} {H W:Nat→Int}
theorem Sg_congr {s t : Nat → Nat} {f : Nat} : ∀ (e : List Nat) (last : Nat), (∀ x ∈ last :: e, s x = t x) → Sg s f last e → Sg t f last e
 | [],last,h,g=>by show t last = f;rw [←h last (by simp)];exact g
 | i :: e,last,h,g=>⟨by rw [←h last (by simp)];exact g.1,Sg_congr e i (fun x hx=>h x (by simp only [List.mem_cons] at hx ⊢;exact .inr hx)) g.2⟩
theorem Sg_nx {f : Nat} : ∀ (e : List Nat) (last : Nat), (last :: e).Nodup → Sg (nx f last e) f last e
 | [],last,_=>rfl
 | i :: e, last, hn => by
  rw [List.nodup_cons] at hn
  refine ⟨by simp [nx],Sg_congr e i (fun x hx=>?_) (Sg_nx e i hn.2)⟩
  have:x ≠ last:=fun h=>by subst h;exact hn.1 hx
  show _ = bif x == last then i else nx f i e x
  rw [beq_eq_false_iff_ne.2 this];rfl
theorem Sg_map {s : Nat → Nat} {f : Nat} : ∀ (e : List Nat) (last : Nat), Sg s f last e → (last :: e).map s = e ++ [f]
 | [],last,h=>by simp [show s last = f from h]
 | i :: e, last, h => by
  rw [List.map_cons,h.1,Sg_map e i h.2];rfl
theorem Sg_kind {s : Nat → Nat} {f : Nat} {Q : PS → Prop} : ∀ (e : List Nat) (last : Nat) (R : PS), Sg s f last e → Rn N H W Q f R last e → ∀ y ∈ last :: e, H (s y) = W y
 | [],last,R,h,g,y,hy=>by rw [List.mem_singleton.1 hy,show s last = f from h,g.1]
 | i :: e, last, R, h, g, y, hy => by
  rcases List.mem_cons.1 hy with rfl | hy
  ·rw [h.1];exact g.2.2.1
  ·exact Sg_kind e i _ h.2 g.2.2.2 y hy
theorem map_inj {s : Nat → Nat} : ∀ (l : List Nat), (l.map s).Nodup → ∀ a ∈ l, ∀ b ∈ l, s a = s b → a = b
 | [],_,_,h,_,_,_=>by cases h
 | x :: l, hn, a, ha, b, hb, e => by
  rw [List.map_cons,List.nodup_cons] at hn
  rcases List.mem_cons.1 ha with ha | ha <;> rcases List.mem_cons.1 hb with hb | hb
  ·rw [ha,hb]
  ·exact absurd (List.mem_map.2 ⟨b,hb,by rw [←ha];exact e.symm⟩) hn.1
  ·exact absurd (List.mem_map.2 ⟨a,ha,by rw [←hb];exact e⟩) hn.1
  ·exact map_inj l hn.2 a ha b hb e
theorem Dv_way : ∀ (L : List (List Nat)) (S : PS), Dv N H W S L → ∃ s, Vd N H W S s ∧ ∀ r ∈ L, ∃ f e, r = f :: e ∧ Sg s f f e
 | [],S,h=>⟨fun i=>i,⟨fun i hi hs=>absurd hs (by rw [h i hi];exact Bool.false_ne_true),fun i j hi _ hs _ _=>absurd hs (by rw [h i hi];exact Bool.false_ne_true)⟩,fun r hr=>by cases hr⟩
 | r :: L, S, h => by
  obtain ⟨f,e,rfl,⟨h1,h2,h3⟩,h4,h5⟩:=h
  obtain ⟨t,⟨t1,t2⟩,t3⟩:=Dv_way L _ h5
  have hnd:(f :: e).Nodup:=by
   rw [List.nodup_cons]
   refine ⟨fun h=>?_,Rn_nodup e _ _ h4⟩
   have:=(Rn_mem e _ _ h4 f h).2
   simp [del] at this
  have hpe:∀ x ∈ f :: e,x < N∧S x = true:=by
   intro x hx
   rcases List.mem_cons.1 hx with rfl | hx
   ·exact ⟨h1,h2⟩
   ·have := Rn_mem e _ _ h4 x hx
    refine ⟨this.1,?_⟩
    have:=this.2
    simp [del] at this;exact this.1
  have hs:∀ x,x ∈ f :: e→(bif (f :: e).contains x then nx f f e x else t x) = nx f f e x:=fun x hx=>by rw [(contains_iff _ _).2 hx];rfl
  have hs':∀ x,x ∉ f :: e→(bif (f :: e).contains x then nx f f e x else t x) = t x:=fun x hx=>by rw [(not_contains _ _).2 hx];rfl
  have hsg:=Sg_nx (f:=f) e f hnd
  have hmap:=Sg_map e f hsg
  have hnm:((f :: e).map (nx f f e)).Nodup:=by
   rw [hmap]
   rw [List.nodup_cons] at hnd
   rw [List.nodup_append]
   refine ⟨hnd.2,by simp,?_⟩
   intro a ha b hb
   rw [List.mem_singleton.1 hb]
   exact fun e=>by subst e;exact hnd.1 ha
  have hin:∀ x ∈ f :: e,nx f f e x ∈ f :: e:=by
   intro x hx
   have:nx f f e x ∈ (f :: e).map (nx f f e):=List.mem_map.2 ⟨x,hx,rfl⟩
   rw [hmap] at this
   simpa [or_comm] using this
  refine ⟨fun x=>bif (f :: e).contains x then nx f f e x else t x,⟨?_,?_⟩,?_⟩
  ·intro i hi hsi
   by_cases hm:i ∈ f :: e
   ·simp only [hs i hm]
    exact ⟨(hpe _ (hin i hm)).1,(hpe _ (hin i hm)).2,Sg_kind e f _ hsg h4 i hm⟩
   ·simp only [hs' i hm]
    obtain ⟨g1,g2,g3⟩:=t1 i hi (rem_mem.2 ⟨hsi,hm⟩)
    exact ⟨g1,(rem_mem.1 g2).1,g3⟩
  ·intro i j hi hj hsi hsj he
   by_cases hm:i ∈ f :: e <;> by_cases hm2:j ∈ f :: e
   ·simp only [hs i hm, hs j hm2] at he
    exact map_inj _ hnm i hm j hm2 he
   ·simp only [hs i hm, hs' j hm2] at he
    have:=(t1 j hj (rem_mem.2 ⟨hsj,hm2⟩)).2.1
    rw [←he] at this
    exact absurd (hin i hm) (rem_mem.1 this).2
   ·simp only [hs' i hm, hs j hm2] at he
    have:=(t1 i hi (rem_mem.2 ⟨hsi,hm⟩)).2.1
    rw [he] at this
    exact absurd (hin j hm2) (rem_mem.1 this).2
   ·simp only [hs' i hm, hs' j hm2] at he
    exact t2 i j hi hj (rem_mem.2 ⟨hsi,hm⟩) (rem_mem.2 ⟨hsj,hm2⟩) he
  ·intro r hr
   rcases List.mem_cons.1 hr with rfl | hr
   ·exact ⟨f,e,rfl,Sg_congr e f (fun x hx=>(hs x hx).symm) hsg⟩
   ·obtain ⟨f', e', rfl, hsg'⟩ := t3 r hr
    refine ⟨f',e',rfl,Sg_congr e' f' (fun x hx=>(hs' x ?_).symm) hsg'⟩
    -- the places of the other rings are others
    have:∀ (L:List (List Nat)) (S:PS),Dv N H W S L→∀ r ∈ L,∀ x ∈ r,S x = true:=by
     intro L
     induction L with
     | nil=>intro S _ r hr;cases hr
     | cons q L ih =>
      intro S h r hr x hx
      obtain ⟨f,e,rfl,⟨h1,h2,h3⟩,h4,h5⟩:=h
      rcases List.mem_cons.1 hr with rfl | hr
      ·rcases List.mem_cons.1 hx with rfl | hx
       ·exact h2
       ·have:=(Rn_mem e _ _ h4 x hx).2;simp [del] at this;exact this.1
      ·exact (rem_mem.1 (ih _ h5 r hr x hx)).1
    exact (rem_mem.1 (this L _ h5 _ hr x hx)).2
theorem way_div {S:PS} {s:Nat→Nat} (hv:Vd N H W S s) {k:Nat} (hk:N < k):Dv N H W S (nl s k (els N S) []):=by
 have:=(nl_ok hv hk (els N S) [] (els_lt S) (fun p hp=>mem_els.1 hp) (fun i _ _=>by simp) (fun i hi h=>mem_els.2 ⟨hi,by simpa [rem] using h⟩)).1
 rwa [rem_nil] at this
theorem div_way {S:PS} {L:List (List Nat)} (h:Dv N H W S L) {k:Nat} (hk:N < k):∃ s,Vd N H W S s∧nl s k (els N S) [] = L:=by
 obtain ⟨s,h1,h2⟩:=Dv_way L S h
 exact ⟨s,h1,nl_eq hk (els N S) [] L (els_lt S) (fun p hp=>mem_els.1 hp) (fun i hi h=>mem_els.2 ⟨hi,by simpa [rem] using h⟩) (by rw [rem_nil];exact h) h2⟩
end Go.MdM
set_option maxRecDepth 100000
namespace Go.MdFM
open Go.Sp Go.MdF Go.MdM

abbrev tb (s:Nat):PS:=s.testBit
def eL (s:Nat):List Int:=(els 10 (tb s)).map Int.ofNat
noncomputable def isIv (o:Option Value) (z:Int):Bool:=oo o false fun v=>oo (toI .i64 v) false fun x=>ieq x z
theorem isIv_ok {o:Option Value} {z:Int} (h:isIv o z = true):o = some (I z):=by
 unfold isIv at h
 cases o with
 | none=>cases h
 | some v =>
  rw [oo_some] at h
  cases hs:toI .i64 v with
  | none=>rw [hs] at h;cases h
  | some x =>
   rw [hs,oo_some,ieq_eq] at h
   rw [toI_some hs,eq_of_beq h]
noncomputable def bqn (a b:Bool):Bool:=bb a b (nt b)
theorem bqn_iff {a b:Bool}:bqn a b = true→a = b:=by cases a <;> cases b <;> intro h <;> first | rfl | cases h
theorem allHas:belowAll (fun s=>belowAll (fun i=>bqn (ieq (aand .u16 (shrI .u16 (Int.ofNat s) i) 1) 1) (s.testBit i)) 10) 1024 = true:=by kernel_rfl
theorem p53 (n s i:Nat) (hs:s < 1024) (hi:i < 10):puN (n + 1) 53 [.int .u16 (Int.ofNat s),I (Int.ofNat i)] = some (.bool (s.testBit i)):=by
 refine Eq.trans (b:=m53_ (puN n) 1000000 (Int.ofNat s) (Int.ofNat i)) (by kernel_rfl) ?_
 unfold m53_
 rw [toN_mk,oo_some,bqn_iff (belowAll_iff (belowAll_iff allHas s hs) i hi)]
def listB (s:Nat):Bool:=decide (bl 10 0 s = eL s)
theorem allList:belowAll listB 1024 = true:=by kernel_rfl
theorem bl_eL (s:Nat) (hs:s < 1024):bl 10 0 s = eL s:=of_decide_eq_true (belowAll_iff allList s hs)
theorem allOnes (pu:PureF):belowAll (fun s=>isIv (m64_ pu 1000000 (Int.ofNat s)) (Int.ofNat (card 10 (tb s)))) 1024 = true:=by kernel_rfl
theorem p64 (n s:Nat) (hs:s < 1024):puN (n + 1) 64 [.int .u16 (Int.ofNat s)] = some (I (Int.ofNat (card 10 (tb s)))):=by
 refine Eq.trans (b:=m64_ (puN n) 1000000 (Int.ofNat s)) (by kernel_rfl) ?_
 exact isIv_ok (belowAll_iff (allOnes _) s hs)
def cl (s k:Nat):Nat:=s &&& (1023 ^^^ 2 ^ k)
theorem allClear:belowAll (fun s=>belowAll (fun k=>ieq (aandNot .u16 (Int.ofNat s) (shlI .u16 1 k)) (Int.ofNat (cl s k))) 10) 1024 = true:=by kernel_rfl
theorem clear_eq (s k:Nat) (hs:s < 1024) (hk:k < 10):aandNot .u16 (Int.ofNat s) (shlI .u16 1 k) = Int.ofNat (cl s k):=by
 have:=belowAll_iff (belowAll_iff allClear s hs) k hk
 rw [ieq_eq] at this
 exact eq_of_beq this
theorem bit1023 (i:Nat) (hi:i < 10):Nat.testBit 1023 i = true:=by
 match i,hi with
 | 0,_=>rfl | 1,_=>rfl | 2,_=>rfl | 3,_=>rfl | 4,_=>rfl | 5,_=>rfl | 6,_=>rfl | 7,_=>rfl | 8,_=>rfl | 9,_=>rfl
theorem cl_bit (s k i:Nat) (hi:i < 10):(cl s k).testBit i = (s.testBit i && !(i == k)):=by
 unfold cl
 rw [Nat.testBit_and,Nat.testBit_xor,bit1023 i hi,Nat.testBit_two_pow]
 by_cases h:k = i
 ·subst h;simp
 ·have : ¬ i = k := fun e => h e.symm
  simp [h,this]
theorem cl_lt (s k m:Nat) (hs:s < 2 ^ m):cl s k < 2 ^ m:=Nat.lt_of_le_of_lt Nat.and_le_left hs
theorem bit_out {s m i:Nat} (hs:s < 2 ^ m) (hi:m≤i):s.testBit i = false:=Nat.testBit_lt_two_pow (Nat.lt_of_lt_of_le hs (Nat.pow_le_pow_right (by decide) hi))
theorem p2le {m:Nat} (h:m≤10):(2:Nat) ^ m≤1024:=Nat.pow_le_pow_right (n:=2) (by decide) h
theorem els_cut (m:Nat) (hm:m≤10) (S:PS) (hs:∀ i,m≤i→S i = false):els 10 S = els m S:=by
 unfold els
 obtain ⟨d,hd⟩:=Nat.exists_eq_add_of_le hm
 rw [hd,List.range_add,List.filter_append]
 have:((List.range d).map (m + ·)).filter S = []:=by
  rw [List.filter_eq_nil_iff];intro a ha
  simp at ha;obtain ⟨b,_,rfl⟩:=ha
  rw [hs _ (by omega)];exact Bool.false_ne_true
 rw [this,List.append_nil]
theorem eL_m {s m:Nat} (hm:m≤10) (hs:s < 2 ^ m):eL s = (els m (tb s)).map Int.ofNat:=by
 unfold eL;rw [els_cut m hm (tb s) (fun i hi=>bit_out hs hi)]
theorem card_m {s m:Nat} (hm:m≤10) (hs:s < 2 ^ m):card 10 (tb s) = card m (tb s):=by
 rw [←els_len,←els_len,els_cut m hm (tb s) (fun i hi=>bit_out hs hi)]
theorem del_cl {s k m:Nat} (hm:m≤10):∀ i,i < m→tb (cl s k) i = del (tb s) k i:=fun i hi=>cl_bit s k i (by omega)

def fn (l:List Int):Nat→Int:=fun i=>l.getD i 0
theorem fn_get {l:List Int} {i:Nat} (h:i < l.length):fn l i = l[i]:=by unfold fn;rw [List.getD_eq_getElem?_getD,List.getElem?_eq_getElem h,Option.getD_some]
theorem cn_succ (i:Nat) (S:PS) (f:Nat→Int) (x:Int):cn (i + 1) S f x = cn i S f x + (if S i = true∧f i = x then 1 else 0):=by
 unfold cn
 rw [List.range_succ,List.countP_append,List.countP_singleton]
 congr 1
 cases h:S i <;> simp
theorem cn_le (i:Nat) (S:PS) (f:Nat→Int) (x:Int):cn i S f x≤i:=by
 unfold cn
 exact Nat.le_trans List.countP_le_length (by simp)
theorem cn_out {i:Nat} {S:PS} {f:Nat→Int} {x:Int} (h:∀ j,j < i→f j ≠ x):cn i S f x = 0:=by
 unfold cn
 rw [List.countP_eq_zero]
 intro j hj
 have:=h j (by simpa using hj)
 simp [this]

theorem m71_end (pu:PureF) (n:Nat) (q:List Int) (hq:q.length = 5):∃ b,m71_0 pu n (q.map I) = some (.bool b)∧(b = true↔∀ j,j < 5→q.getD j 0 = 0):=by
 match q,hq with
 | [a, b, c, d, e], _ =>
  refine ⟨bq true (an (ieq a 0) (an (ieq b 0) (an (ieq c 0) (an (ieq d 0) (an (ieq e 0) true))))),rfl,?_⟩
  have:(bq true (an (ieq a 0) (an (ieq b 0) (an (ieq c 0) (an (ieq d 0) (an (ieq e 0) true))))) = true)↔a = 0∧b = 0∧c = 0∧d = 0∧e = 0:=by
   simp [ieq_eq]
  rw [this]
  constructor
  ·rintro ⟨rfl, rfl, rfl, rfl, rfl⟩ j hj
   match j,hj with | 0,_=>rfl | 1,_=>rfl | 2,_=>rfl | 3,_=>rfl | 4,_=>rfl | j + 5,hj=>omega
  ·intro g;exact ⟨g 0 (by omega),g 1 (by omega),g 2 (by omega),g 3 (by omega),g 4 (by omega)⟩
end Go.MdFM
set_option maxRecDepth 100000
namespace Go.MdFM
open Go.Sp Go.MdF Go.MdM

def kin (l:List Int):Prop:=∀ x ∈ l,0≤x∧x < 5
theorem upd_words (q : List Int) (X Y : Nat) (hq : q.length = 5) (hX : X < 5) (hY : Y < 5) (hb : ∀ j, j < 5 → -1000 ≤ q.getD j 0 ∧ q.getD j 0 ≤ 1000) :
 (q.map I)[X]? = some (I (q.getD X 0))∧wrapF .i64 (Int.add (q.getD X 0) 1) = q.getD X 0 + 1∧setL ([I (q.getD X 0 + 1)]:List Value) X (q.map I) = (q.set X (q.getD X 0 + 1)).map I ∧
 ((q.set X (q.getD X 0 + 1)).map I)[Y]? = some (I ((q.set X (q.getD X 0 + 1)).getD Y 0))∧wrapF .i64 (Int.sub ((q.set X (q.getD X 0 + 1)).getD Y 0) 1) = (q.set X (q.getD X 0 + 1)).getD Y 0 - 1 ∧
 setL ([I ((q.set X (q.getD X 0 + 1)).getD Y 0 - 1)]:List Value) Y ((q.set X (q.getD X 0 + 1)).map I) = (upd q X Y).map I:=by
 have gX : q[X]'(by omega) = q.getD X 0 := by simp [List.getD_eq_getElem?_getD, hq, hX]
 have hl1:(q.set X (q.getD X 0 + 1)).length = 5:=by simp [hq]
 have gY : (q.set X (q.getD X 0 + 1))[Y]'(by omega) = (q.set X (q.getD X 0 + 1)).getD Y 0 := by simp [List.getD_eq_getElem?_getD, hq, hY]
 have hbY:-1001≤(q.set X (q.getD X 0 + 1)).getD Y 0∧(q.set X (q.getD X 0 + 1)).getD Y 0≤1001:=by
  have h1:=hb X hX
  have h2:=hb Y hY
  rw [set_getD _ _ _ _ (by omega)]
  split <;> omega
 refine ⟨?_, wrapI _ (by have := hb X hX; show _ ≤ q.getD X 0 + 1; omega) (by have := hb X hX; show q.getD X 0 + 1 ≤ _; omega), ?_, ?_,
  wrapI _ (by show _≤(q.set X (q.getD X 0 + 1)).getD Y 0 - 1;omega) (by show (q.set X (q.getD X 0 + 1)).getD Y 0 - 1≤_;omega),?_⟩
 ·rw [getI q X (by omega),gX]
 ·rw [setL_one _ _ _ (by simp [hq,hX]),List.map_set]
 ·rw [getI _ Y (by omega),gY]
 ·rw [setL_one _ _ _ (by simp [hq,hY]),←List.map_set];rfl
theorem kin_get {l:List Int} (hl:kin l) {i:Nat} (h:i < l.length):∃ X:Nat,l[i] = Int.ofNat X∧X < 5:=by
 obtain ⟨h1,h2⟩:=hl _ (List.getElem_mem h)
 exact ⟨l[i].toNat,(Int.toNat_of_nonneg h1).symm,by omega⟩
theorem kin_out {l:List Int} (hl:kin l) {x:Int} (hx:¬ (0≤x∧x < 5)) (S:PS) {i:Nat} (hi:i≤l.length):cn i S (fn l) x = 0:=by
 refine cn_out fun j hj e=>hx ?_
 rw [fn_get (by omega)] at e
 rw [←e];exact hl _ (List.getElem_mem _)

theorem l71 (n m fl fl' s : Nat) (k : Int) (h w : List Int) (hN : h.length ≤ 10) (hw : w.length = h.length) (hs : s < 1024) (hk : kin h) (hkw : kin w) : ∀ (f i : Nat) (q : List Int), h.length - i < f → i ≤ h.length → q.length = 5 →
 (∀ j,j < 5→q.getD j 0 = cn i (tb s) (fn h) (j:Int) - cn i (tb s) (fn w) (j:Int)) →
 ∃ b,l71_1 (puN (n + 1)) m f (Int.ofNat s) (Int.ofNat h.length) (Int.ofNat i) k (sl fl h) (sl fl' w) (q.map I) = some (.bool b)∧(b = true↔Ev h.length (fn h) (fn w) (tb s)):=by
 intro f
 induction f with
 | zero=>intro i q hi;omega
 | succ f ih =>
  intro i q hi hil hq hinv
  show ∃ b,b71_1 (puN (n + 1)) m (l71_1 (puN (n + 1)) m f) _ _ _ _ _ _ _ = _∧_
  unfold b71_1
  rw [allL_eq,closedI,bb_true]
  by_cases hlt:i < h.length
  ·have hlw : i < w.length := by omega
   rw [lt_true hlt,bb_true]
   have p:=p53 n s i hs (by omega)
   simp only [p,oo_some,vBool_mk]
   cases hb:s.testBit i with
   | false =>
    rw [bb_false]
    unfold m71_2
    rw [allL_eq,closedI,bb_true,wrapS i (by omega)]
    refine ih (i + 1) q (by omega) (by omega) hq fun j hj=>?_
    rw [hinv j hj,cn_succ,cn_succ]
    simp [tb,hb]
   | true =>
    obtain ⟨X,eX,hX⟩:=kin_get hk hlt
    obtain ⟨Y,eY,hY⟩:=kin_get hkw hlw
    have hbq:∀ j,j < 5→-1000≤q.getD j 0∧q.getD j 0≤1000:=fun j hj=>by
     have:=hinv j hj
     have c1:=cn_le i (tb s) (fn h) (j:Int)
     have c2:=cn_le i (tb s) (fn w) (j:Int)
     omega
    obtain ⟨u1,u2,u3,u4,u5,u6⟩:=upd_words q X Y hq hX hY hbq
    have hl1:(q.set X (q.getD X 0 + 1)).length = 5:=by simp [hq]
    unfold m71_2
    simp only [bb_true,toN_mk,oo_some,sl_n,sl_cs,blt_eq,hlt,hlw,decide_true,an_eq,Bool.true_and,nthL_eq,Nat.mul_one,getI h i hlt,getI w i hlw,toI_mk,eX,eY,hX,hY,Nat.zero_add,u1,u2,u3,u4,u5,u6,ble_eq,len_eq,List.length_map,hq,hl1,Nat.succ_le_of_lt hX,Nat.succ_le_of_lt hY,allL_eq,closedI,wrapS i (by omega:i < 1000000)]
    refine ih (i + 1) (upd q X Y) (by omega) (by omega) (by rw [upd_len,hq]) fun j hj=>?_
    rw [upd_get q X Y j (by omega) (by omega) (by omega),hinv j hj,cn_succ,cn_succ,fn_get hlt,fn_get hlw,eX,eY]
    have t1:(tb s i = true∧Int.ofNat X = (j:Int))↔j = X:=by simp [tb,hb];omega
    have t2:(tb s i = true∧Int.ofNat Y = (j:Int))↔j = Y:=by simp [tb,hb];omega
    simp only [t1,t2]
    split <;> split <;> simp <;> omega
  ·have : i = h.length := by omega
   subst this
   rw [lt_false hlt,bb_false]
   obtain ⟨b,e,hb⟩:=m71_end (puN (n + 1)) m q hq
   refine ⟨b,e,hb.trans ⟨fun g x=>?_,fun g j hj=>?_⟩⟩
   ·by_cases hx : 0 ≤ x ∧ x < 5
    ·obtain ⟨j, rfl⟩ : ∃ j : Nat, x = j := ⟨x.toNat, by omega⟩
     have h1:=hinv j (by omega)
     have h2:=g j (by omega)
     omega
    ·rw [kin_out hk hx _ (Nat.le_refl _),kin_out hkw hx _ (by omega)]
   ·rw [hinv j hj,g j];omega
theorem p71 (n fl fl' s : Nat) (k : Int) (h w : List Int) (hN : h.length ≤ 10) (hw : w.length = h.length) (hs : s < 1024) (hk : kin h) (hkw : kin w) :
 ∃ b,puN (n + 2) 71 [tr fl fl' k h w,.int .u16 (Int.ofNat s)] = some (.bool b)∧(b = true↔Ev h.length (fn h) (fn w) (tb s)):=by
 obtain ⟨b,e,hb⟩:=l71 n 1000000 fl fl' s k h w hN hw hs hk hkw 1000000 0 [0,0,0,0,0] (by omega) (by omega) rfl (by intro j hj;match j,hj with | 0,_=>rfl | 1,_=>rfl | 2,_=>rfl | 3,_=>rfl | 4,_=>rfl | j + 5,hj=>omega)
 refine ⟨b,?_,hb⟩
 refine Eq.trans (b:=l71_1 (puN (n + 1)) 1000000 1000000 (Int.ofNat s) (Int.ofNat h.length) (Int.ofNat 0) k (sl fl h) (sl fl' w) (([0,0,0,0,0]:List Int).map I)) (by kernel_rfl) e
end Go.MdFM
set_option maxRecDepth 100000
namespace Go.MdFM
open Go.Sp Go.MdF Go.MdM

abbrev U (s:Nat):Value:=.int .u16 (Int.ofNat s)
def Gd (T:Nat→Int) (es:List Ent):Prop:=∀ e ∈ es,∃ s b,e = ⟨U s,I (T s),b⟩
theorem U_inj {a b:Nat} (h:U a = U b):a = b:=by injection h with _ h;injection h
theorem gd_closed {T:Nat→Int} {es:List Ent} (h:Gd T es):allL entClosed es = true:=by
 rw [allL_eq,List.all_eq_true]
 intro e he
 obtain ⟨s,b,rfl⟩:=h e he
 rfl
theorem gd_find {T : Nat → Int} (s : Nat) : ∀ (es : List Ent) (i : Nat), Gd T es →
 (findE (U s) es i = some none∧∀ e ∈ es,e.key ≠ U s)∨∃ j b,findE (U s) es i = some (some (i + j,I (T s)))∧es[j]? = some ⟨U s,I (T s),b⟩
 | [],i,_=>.inl ⟨rfl,fun e he=>by cases he⟩
 | e :: es, i, h => by
  obtain ⟨t,b,rfl⟩:=h e (by simp)
  have hf:findE (U s) (⟨U t,I (T t),b⟩ :: es) i = bb (ieq (Int.ofNat s) (Int.ofNat t)) (some (some (i,I (T t)))) (findE (U s) es (i + 1)):=rfl
  by_cases hst:s = t
  ·subst hst
   rw [hf,show ieq (Int.ofNat s) (Int.ofNat s) = true from by simp [ieq_eq],bb_true]
   exact .inr ⟨0,b,rfl,rfl⟩
  ·rw [hf, show ieq (Int.ofNat s) (Int.ofNat t) = false from by simp [ieq_eq]; omega, bb_false]
   rcases gd_find s es (i + 1) (fun e he=>h e (by simp [he])) with ⟨h1,h2⟩ | ⟨j,b',h1,h2⟩
   ·refine .inl ⟨h1, fun e he => ?_⟩
    rcases List.mem_cons.1 he with rfl | he
    ·intro g;exact hst (U_inj g).symm
    ·exact h2 e he
   ·refine .inr ⟨j + 1, b', ?_, by simpa using h2⟩
    rw [h1,show i + 1 + j = i + (j + 1) by omega]
theorem modL_same {α : Type} (f : α → α) : ∀ (j : Nat) (l : List α) (a : α), l[j]? = some a → f a = a → modL f j l = l
 | 0,a :: l,b,h,hf=>by simp at h;subst h;show f a :: l = _;rw [hf]
 | j + 1, a :: l, b, h, hf => by
  show a :: modL f j l = _
  rw [modL_same f j l b (by simpa using h) hf]
 | _,[],_,h,_=>by simp at h
theorem gd_upd {T:Nat→Int} (s c:Nat) {es:List Ent} (h:Gd T es):∃ r,findE (U s) es 0 = some r∧Gd T (updE (U s) (I (T s)) c es r)∧(∀ e ∈ es,e ∈ updE (U s) (I (T s)) c es r):=by
 rcases gd_find s es 0 h with ⟨h1,h2⟩ | ⟨j,b,h1,h2⟩
 ·refine ⟨none, h1, ?_, ?_⟩
  ·show Gd T (appL es [⟨U s, I (T s), c⟩])
   rw [appL_eq]
   intro e he
   rcases List.mem_append.1 he with he | he
   ·exact h e he
   ·exact ⟨s,c,List.mem_singleton.1 he⟩
  ·intro e he
   show e ∈ appL es _
   rw [appL_eq];simp [he]
 ·refine ⟨_, h1, ?_⟩
  have:updE (U s) (I (T s)) c es (some (0 + j,I (T s))) = es:=by
   show modL (fun e=>⟨U s,I (T s),e.born⟩) (0 + j) es = es
   rw [Nat.zero_add]
   exact modL_same _ j es _ h2 rfl
  rw [this];exact ⟨h,fun e he=>he⟩

def ptr:Value:=.pointer (some ⟨1,0,none⟩)
def led (fl fl':Nat) (k:Int) (h w:List Int):Value:=.agg ⟨[I k,S fl h,S fl' w,.map (some 2)]⟩
noncomputable def mp (es:List Ent) (c:Nat):Value:=encO (.map es c)
noncomputable def TM (h w:List Int) (s:Nat):Int:=Int.ofNat (M h.length (fn h) (fn w) (tb s))
def Gm (h w:List Int) (es:List Ent):Prop:=Gd (TM h w) es∧∃ b,(⟨U 0,I (TM h w 0),b⟩:Ent) ∈ es

theorem M_lt (N:Nat) (H W:Nat→Int) (S:PS):M N H W S≤N:=by
 have:∀ k (S:PS),card N S≤k→M N H W S≤card N S:=by
  intro k
  induction k with
  | zero=>intro S hk;rw [M_zero (by omega)];exact Nat.zero_le _
  | succ k ih =>
   intro S hk
   by_cases h0:card N S = 0
   ·rw [M_zero h0];exact Nat.zero_le _
   ·rw [M_eq S h0]
    have h1:mx ((els N S).map fun i=>M N H W (del S i))≤card N S - 1:=by
     refine mx_le fun a ha=>?_
     obtain ⟨i,hi,rfl⟩:=List.mem_map.1 ha
     obtain ⟨h1,h2⟩:=mem_els.1 hi
     have h3:=card_del h1 h2
     have:=ih (del S i) (by omega)
     omega
    have:=one_le (Ev N H W S)
    omega
 have h1:=this _ S (Nat.le_refl _)
 have h2:card N S≤N:=by unfold card;exact Nat.le_trans List.countP_le_length (by simp)
 omega
theorem mx_take (l:List Nat) (i:Nat) (h:i < l.length):mx (l.take (i + 1)) = max (mx (l.take i)) l[i]:=by
 rw [List.take_succ_eq_append_getElem h]
 unfold mx
 rw [List.foldl_append];rfl

section
variable (fl fl':Nat) (k:Int) (h w:List Int) (hN:h.length≤10) (hw:w.length = h.length) (hk:kin h) (hkw:kin w)
def Mo (n d : Nat) : Prop := ∀ s es c, card h.length (tb s) ≤ d → s < 2 ^ h.length → Gm h w es →
 ∃ es' c',puN n 10660 [ptr,U s,led fl fl' k h w,mp es c] = some (.tuple ⟨[I (TM h w s),led fl fl' k h w,mp es' c']⟩)∧Gm h w es'
include hN hw hk hkw
theorem end10660 (n s c : Nat) (es : List Ent) (hs : s < 2 ^ h.length) (hg : Gm h w es) (h0 : card h.length (tb s) ≠ 0) :
 ∃ es' c',m10660_0 (puN (n + 2)) 1000000 (Int.ofNat s) (Int.ofNat (mx ((els h.length (tb s)).map fun i=>M h.length (fn h) (fn w) (del (tb s) i)))) k (sl fl h) (sl fl' w) es c = some (.tuple ⟨[I (TM h w s),led fl fl' k h w,mp es' c']⟩)∧Gm h w es':=by
 obtain ⟨b,e,hb⟩:=p71 n fl fl' s k h w hN hw (Nat.lt_of_lt_of_le hs (p2le hN)) hk hkw
 obtain ⟨r,h1,h2,h3⟩:=gd_upd (T:=TM h w) s c hg.1
 have fin:m10660_1 (puN (n + 2)) 1000000 (Int.ofNat s) (TM h w s) k (sl fl h) (sl fl' w) es c = some (.tuple ⟨[I (TM h w s),led fl fl' k h w,mp (updE (U s) (I (TM h w s)) c es r) (updC c r)]⟩):=by
  unfold m10660_1
  rw [h1,oo_some,gd_closed h2,bb_true];rfl
 have gm:Gm h w (updE (U s) (I (TM h w s)) c es r):=⟨h2,hg.2.elim fun b hb=>⟨b,h3 _ hb⟩⟩
 refine ⟨_,updC c r,?_,gm⟩
 unfold m10660_0
 have hm:=M_eq (N:=h.length) (H:=fn h) (W:=fn w) (tb s) h0
 have hlt:=M_lt h.length (fn h) (fn w) (tb s)
 unfold tr S at e
 rw [e,oo_some,vBool_mk,oo_some,gd_closed hg.1,bb_true]
 cases b with
 | true =>
  rw [one_t (hb.1 rfl)] at hm
  rw [bb_true,wrapS _ (by omega),←hm]
  exact fin
 | false =>
  rw [one_f (fun g=>by simpa using hb.2 g)] at hm
  rw [bb_false,show mx _ = M h.length (fn h) (fn w) (tb s) from hm.symm]
  exact fin
theorem l10660 (n d s : Nat) (hs : s < 2 ^ h.length) (hd : card h.length (tb s) ≤ d + 1) (h0 : card h.length (tb s) ≠ 0) (ih0 : Mo fl fl' k h w (n + 2) d) : ∀ (f i c : Nat) (es : List Ent), (eL s).length - i < f → i ≤ (eL s).length → Gm h w es →
 ∃ es' c', l10660_2 (puN (n + 2)) 1000000 f (Int.ofNat s) (Int.ofNat (mx (((els h.length (tb s)).map fun i => M h.length (fn h) (fn w) (del (tb s) i)).take i))) (sl 0 (eL s)) (Int.ofNat (eL s).length) (Int.ofNat i) k (sl fl h) (sl fl' w) es c =
  some (.tuple ⟨[I (TM h w s),led fl fl' k h w,mp es' c']⟩)∧Gm h w es':=by
 intro f
 have heL:=eL_m hN hs
 have hlen:(eL s).length = (els h.length (tb s)).length:=by rw [heL,List.length_map]
 have hcd:(els h.length (tb s)).length≤10:=by
  rw [els_len];unfold card;exact Nat.le_trans List.countP_le_length (by simpa using hN)
 induction f with
 | zero=>intro i c es hi;omega
 | succ f ih =>
  intro i c es hi hil hg
  show ∃ es' c',b10660_2 (puN (n + 2)) 1000000 (l10660_2 (puN (n + 2)) 1000000 f) _ _ _ _ _ _ _ _ _ _ = _∧_
  unfold b10660_2
  rw [gd_closed hg.1,bb_true]
  by_cases hlt:i < (eL s).length
  ·have hlt' : i < (els h.length (tb s)).length := by omega
   have hx:(eL s)[i] = Int.ofNat ((els h.length (tb s))[i]):=by simp only [heL,List.getElem_map]
   obtain ⟨x1,x2⟩:=mem_els.1 (List.getElem_mem hlt')
   generalize hxe:(els h.length (tb s))[i] = x at *
   have hcl:=cl_lt s x h.length hs
   have hdel:∀ j,j < h.length→tb (cl s x) j = del (tb s) x j:=del_cl hN
   have hcd2:card h.length (tb (cl s x))≤d:=by
    rw [card_congr hdel];have:=card_del x1 x2;omega
   obtain ⟨es1,c1,e1,g1⟩:=ih0 (cl s x) es c hcd2 hcl hg
   have hT:TM h w (cl s x) = Int.ofNat (M h.length (fn h) (fn w) (del (tb s) x)):=by unfold TM;rw [M_congr hdel]
   unfold led S mp ptr at e1
   rw [lt_true hlt]
   have hgx:((eL s).map I)[i]? = some (I (Int.ofNat x)):=by rw [getI _ i hlt,hx]
   simp only [bb_true,toN_mk,oo_some,sl_n,sl_cs,blt_eq,hlt,decide_true,an_eq,Bool.true_and,nthL_eq,Nat.mul_one,hgx,toI_mk,clear_eq s x (Nat.lt_of_lt_of_le hs (p2le hN)) (by omega)]
   rw [e1]
   simp only [oo_some,vTup_mk,ll_cons',ll_nil',vAgg_mk,toI_mk,toSl_mk,vMapO_mk,gd_closed g1.1,bb_true,wrapS i (by omega),bbmax,hT]
   rw [show isMp (Value.map (some 2)) 2 = true from rfl,bb_true]
   have hmx:=mx_take ((els h.length (tb s)).map fun i=>M h.length (fn h) (fn w) (del (tb s) i)) i (by simpa using hlt')
   simp only [List.getElem_map,hxe] at hmx
   have hmaxI:∀ a b:Nat,max (Int.ofNat a) (Int.ofNat b) = Int.ofNat (max a b):=fun a b=>by simp only [Int.ofNat_eq_natCast];omega
   rw [hmaxI,←hmx]
   exact ih (i + 1) c1 es1 (by omega) (by omega) g1
  ·have hi' : i = (eL s).length := by omega
   subst hi'
   rw [lt_false hlt,bb_false,List.take_of_length_le (by rw [List.length_map];omega)]
   exact end10660 fl fl' k h w hN hw hk hkw n s c es hs hg h0
theorem mo_all:∀ (d n:Nat),Mo fl fl' k h w (n + d + 3) d:=by
 intro d
 induction d with
 | zero =>
  intro n s es c hd hs hg
  have hz:s = 0:=by
   apply Nat.eq_of_testBit_eq
   intro i
   rw [Nat.zero_testBit]
   by_cases hi:i < h.length
   ·exact card_zero (by omega:card h.length (tb s) = 0) i hi
   ·exact bit_out hs (by omega)
  subst hz
  obtain ⟨b0,hb0⟩:=hg.2
  refine ⟨es,c,?_,hg⟩
  refine Eq.trans (b:=m10660_ (puN (n + 0 + 2)) 1000000 (Int.ofNat 0) k (sl fl h) (sl fl' w) es c) ?_ ?_
  ·show m10660 _ _ [ptr, U 0, led fl fl' k h w, mp es c] = _
   unfold m10660 led S mp ptr
   simp only [ll_cons',ll_nil',vMapO_mk,toI_mk16,toI_mk,vAgg_mk,toSl_mk,oo_some]
   rfl
  unfold m10660_
  rw [gd_closed hg.1,bb_true]
  rcases gd_find (T:=TM h w) 0 es 0 hg.1 with ⟨h1,h2⟩ | ⟨j,b,h1,h2⟩
  ·exact absurd rfl (h2 _ hb0)
  ·rw [h1];rfl
 | succ d ih =>
  intro n s es c hd hs hg
  have e0:puN (n + (d + 1) + 3) 10660 [ptr,U s,led fl fl' k h w,mp es c] = m10660_ (puN (n + (d + 1) + 2)) 1000000 (Int.ofNat s) k (sl fl h) (sl fl' w) es c:=by
   show m10660 _ _ [ptr,U s,led fl fl' k h w,mp es c] = _
   unfold m10660 led S mp ptr
   simp only [ll_cons',ll_nil',vMapO_mk,toI_mk16,toI_mk,vAgg_mk,toSl_mk,oo_some]
   rfl
  rw [e0]
  unfold m10660_
  rw [gd_closed hg.1,bb_true]
  rcases gd_find (T:=TM h w) s es 0 hg.1 with ⟨h1,h2⟩ | ⟨j,b,h1,h2⟩
  ·have h0 : card h.length (tb s) ≠ 0 := by
    intro hz
    have hz:s = 0:=by
     apply Nat.eq_of_testBit_eq
     intro i
     rw [Nat.zero_testBit]
     by_cases hi:i < h.length
     ·exact card_zero hz i hi
     ·exact bit_out hs (by omega)
    subst hz
    obtain ⟨b0,hb0⟩:=hg.2
    exact h2 _ hb0 rfl
   rw [h1,oo_some]
   have e1:toI .i64 (getE none (.int .i64 0)) = some 0:=rfl
   have p:=p62 (n + d + 1) s (Nat.lt_of_lt_of_le hs (p2le hN))
   rw [bl_eL s (Nat.lt_of_lt_of_le hs (p2le hN))] at p
   rw [e1,oo_some,show isS (none:Option (Nat×Value)) = false from rfl,bb_false]
   rw [show n + (d + 1) + 2 = n + d + 1 + 2 by omega,p,oo_some]
   unfold S
   rw [toSl_mk,oo_some]
   have:=l10660 fl fl' k h w hN hw hk hkw (n + d + 1) d s hs hd h0 (by have:=ih n;rwa [show n + d + 3 = n + d + 1 + 2 by omega] at this) 1000000 0 c es (by rw [eL_m hN hs,List.length_map,els_len];unfold card;have:=List.countP_le_length (l:=List.range h.length) (p:=tb s);rw [List.length_range] at this;omega) (by omega) hg
   rw [List.take_zero] at this
   exact this
  ·refine ⟨es, c, ?_, hg⟩
   rw [h1];rfl
end
end Go.MdFM
set_option maxRecDepth 100000
namespace Go.MdFM
open Go.Sp Go.MdF Go.MdM

theorem p10650 (n fl fl':Nat) (k:Int) (h w:List Int):puN (n + 1) 10650 [tr fl fl' k h w] = some (.tuple ⟨[ptr,led fl fl' k h w,mp [⟨U 0,I 0,0⟩] 1]⟩):=by kernel_rfl
theorem TM0 (h w:List Int):TM h w 0 = 0:=by
 unfold TM
 rw [M_zero];rfl
 unfold card
 rw [List.countP_eq_zero]
 intro i _
 simp [tb]
theorem gm0 (h w:List Int):Gm h w [⟨U 0,I 0,0⟩]:=by
 refine ⟨fun e he=>⟨0,0,?_⟩,0,?_⟩
 ·rw [List.mem_singleton.1 he,TM0]
 ·rw [TM0];simp
noncomputable def FW (h w:List Int):Int:=Int.ofNat (card h.length (tb (bv h w))) - TM h w (bv h w)
theorem p44 (n fl fl':Nat) (k:Int) (h w:List Int) (hN:h.length≤10) (hw:w.length = h.length) (hk:kin h) (hkw:kin w):puN (n + 14) 44 [tr fl fl' k h w] = some (I (FW h w)):=by
 refine Eq.trans (b:=m44_ (puN (n + 13)) 1000000 k (sl fl h) (sl fl' w)) (by kernel_rfl) ?_
 unfold m44_
 have hb:=bv_lt h w
 have hb2:=Nat.lt_of_lt_of_le hb (p2le hN)
 have hcd:card h.length (tb (bv h w))≤10:=by unfold card;exact Nat.le_trans List.countP_le_length (by simpa using hN)
 obtain ⟨es,c,e1,g1⟩:=mo_all fl fl' k h w hN hw hk hkw 10 n (bv h w) _ 1 hcd hb (gm0 h w)
 have e2:=p51 (n + 12) fl fl' k h w hN hw
 have e3:=p64 (n + 12) (bv h w) hb2
 have e4:=p10650 (n + 12) fl fl' k h w
 unfold tr S at e2 e4
 unfold led S mp ptr at e1 e4
 rw [e2]
 simp only [oo_some,toI_mk16]
 rw [e3]
 simp only [oo_some,toI_mk]
 rw [e4]
 simp only [oo_some,vTup_mk,ll_cons',ll_nil',vAgg_mk,toI_mk,toSl_mk,vMapO_mk,gd_closed (gm0 h w).1,bb_true]
 rw [show isPt (Value.pointer (some ⟨1,0,none⟩)) 1 0 = true from rfl,show isMp (Value.map (some 2)) 2 = true from rfl]
 simp only [bb_true]
 unfold U at e1
 rw [e1]
 simp only [oo_some,vTup_mk,ll_cons',ll_nil',vAgg_mk,toI_mk,toSl_mk,vMapO_mk,gd_closed g1.1,bb_true]
 have hM:=M_lt h.length (fn h) (fn w) (tb (bv h w))
 have:wrapF .i64 (Int.sub (Int.ofNat (card 10 (tb (bv h w)))) (TM h w (bv h w))) = FW h w:=by
  rw [card_m hN hb]
  unfold FW TM
  exact wrapI _ (by show _≤((card h.length (tb (bv h w)):Nat):Int) - ((M h.length (fn h) (fn w) (tb (bv h w)):Nat):Int);omega) (by show ((card h.length (tb (bv h w)):Nat):Int) - ((M h.length (fn h) (fn w) (tb (bv h w)):Nat):Int)≤_;omega)
 rw [this]
 rw [show isMp (Value.map (some 2)) 2 = true from rfl,bb_true]
end Go.MdFM
set_option maxRecDepth 100000
namespace Go.MdFM
open Go.Sp Go.MdF Go.MdM

def nI (l:List Nat):List Int:=l.map Int.ofNat
theorem nI_len (l:List Nat):(nI l).length = l.length:=by simp [nI]
theorem nI_get (l : List Nat) (i : Nat) (h : i < l.length) : (nI l)[i]'(by rw [nI_len]; exact h) = Int.ofNat l[i] := by simp [nI]
theorem nI_app (a b:List Nat):nI (a ++ b) = nI a ++ nI b:=by simp [nI]
theorem getN (l:List Nat) (i:Nat) (h:i < l.length):((nI l).map I)[i]? = some (I (Int.ofNat l[i])):=by rw [getI _ i (by rw [nI_len];exact h),nI_get l i h]
theorem count_nI (l:List Nat) (a:Nat):(nI l).count (Int.ofNat a) = l.count a:=by
 unfold nI
 induction l with
 | nil=>rfl
 | cons x l ih =>
  rw [List.map_cons]
  by_cases h:x = a
  ·subst h;rw [List.count_cons_self,List.count_cons_self,ih]
  ·rw [List.count_cons_of_ne h,List.count_cons_of_ne (fun e=>h (by injection e)),ih]
theorem clN (l:List Nat):allL closed1 ((nI l).map I) = true:=by rw [allL_eq,closedI]
def rv (r:List Nat):Value:=S 0 (nI r)
def LL (fl:Nat) (L:List (List Nat)):Sl:=⟨L.length,fl,L.map rv⟩
theorem clL (L:List (List Nat)):allL closed1 (L.map rv) = true:=by
 rw [allL_eq,List.all_eq_true];intro x hx
 obtain ⟨r,_,rfl⟩:=List.mem_map.1 hx;rfl
def lv (n c:Nat):Value:=.slice (some ⟨1,0,some 1⟩) n c

theorem l10691 (pu : PureF) (n c : Nat) (l : List Int) (x : Int) (hl : l.length < 1000) : ∀ (w i z : Nat), l.length - i < w → i ≤ l.length → z ≤ i →
 l10691_1 pu n w l.length c x (Int.ofNat z) (Int.ofNat i) (l.map I) = some (.tuple ⟨[I (Int.ofNat (z + (l.drop i).count x)),.agg ⟨l.map I⟩]⟩):=by
 intro w
 induction w with
 | zero=>intro i z h;omega
 | succ w ih =>
  intro i z h hi hz
  show b10691_1 pu n (l10691_1 pu n w) _ _ _ _ _ _ = _
  unfold b10691_1
  rw [allL_eq,closedI,bb_true]
  by_cases hlt:i < l.length
  ·have e : l.drop i = l[i] :: l.drop (i + 1) := List.drop_eq_getElem_cons hlt
   rw [lt_true hlt]
   simp only [bb_true,toN_mk,oo_some,blt_eq,hlt,decide_true,an_eq,Bool.true_and,nthL_eq,Nat.zero_add,Nat.mul_one,getI l i hlt,toI_mk,m10691_2,wrapS i (by omega),wrapS z (by omega),allL_eq,closedI]
   by_cases hx:l[i] = x
   ·have : ieq l[i] x = true := by simp [ieq_eq, hx]
    rw [this,bb_true,ih (i + 1) (z + 1) (by omega) (by omega) (by omega),e,hx,List.count_cons_self]
    rw [show z + 1 + (l.drop (i + 1)).count x = z + ((l.drop (i + 1)).count x + 1) by omega]
   ·have : ieq l[i] x = false := by simp [ieq_eq, hx]
    rw [this,bb_false,ih (i + 1) z (by omega) (by omega) (by omega),e,List.count_cons_of_ne hx]
  ·have hi : i = l.length := by omega
   subst hi
   rw [lt_false hlt,bb_false]
   unfold m10691_0
   rw [allL_eq,closedI,bb_true,List.drop_length];rfl
theorem p10691 (n c:Nat) (l:List Int) (x:Int) (hl:l.length < 1000):puN (n + 1) 10691 [lv l.length c,I x,.agg ⟨l.map I⟩] = some (.tuple ⟨[I (Int.ofNat (l.count x)),.agg ⟨l.map I⟩]⟩):=by
 refine Eq.trans (b:=m10691_ (puN n) 1000000 l.length c x (l.map I)) (by kernel_rfl) ?_
 unfold m10691_
 rw [allL_eq,closedI,bb_true]
 have:=l10691 (puN n) 1000000 c l x hl 1000000 0 0 (by omega) (by omega) (by omega)
 rw [List.drop_zero,Nat.zero_add] at this
 exact this
theorem has_iff (l:List Nat) (a:Nat):ilt 0 (Int.ofNat ((nI l).count (Int.ofNat a))) = l.contains a:=by
 rw [count_nI,Bool.eq_iff_iff,contains_iff,ilt_eq,decide_eq_true_iff]
 rw [←List.count_pos_iff]
 show (0:Int) < ((l.count a:Nat):Int)↔_
 omega
theorem p10551 (n:Nat) (l:List Nat) (a:Nat) (hl:l.length < 1000):puN (n + 2) 10551 [lv l.length (2 * l.length),I (Int.ofNat a),.agg ⟨(nI l).map I⟩] = some (.tuple ⟨[.bool (l.contains a),.agg ⟨(nI l).map I⟩]⟩):=by
 refine Eq.trans (b:=m10551_ (puN (n + 1)) 1000000 l.length (2 * l.length) (Int.ofNat a) ((nI l).map I)) (by kernel_rfl) ?_
 unfold m10551_
 have hc:orr (Nat.ble 2 (2 * l.length)) (nilL ((nI l).map I)) = true:=by
  cases l with
  | nil=>rfl
  | cons x l=>rw [show Nat.ble 2 (2 * (x :: l).length) = true from by rw [ble_eq];simp;omega];rfl
 have p:=p10691 n (2 * l.length) (nI l) (Int.ofNat a) (by rw [nI_len];exact hl)
 rw [nI_len] at p
 unfold lv at p
 rw [clN,bb_true,hc,bb_true,bb_true,p]
 simp only [oo_some,vTup_mk,ll_cons',ll_nil',toI_mk,vAgg_mk,clN,bb_true,has_iff]
theorem p10550 (n fl:Nat) (l:List Nat) (a:Nat) (hl:l.length < 50):puN (n + 2) 10550 [S fl (nI l),I (Int.ofNat a)] = some (.tuple ⟨[.bool (l.contains a)]⟩):=by
 refine Eq.trans (b:=m10550_ (puN (n + 1)) 1000000 (sl fl (nI l)) (Int.ofNat a)) (by kernel_rfl) ?_
 unfold m10550_
 have p:=p10690 n fl (nI l) (Int.ofNat a) (by rw [nI_len];exact hl)
 unfold S at p
 rw [p]
 simp only [oo_some,vTup_mk,ll_cons',ll_nil',toI_mk,has_iff]

theorem growG (sz by' n k:Nat) (xs:List Value) (hr:roomy (n + k) by' = true) (hk:1≤k) (hx:xs.length = n * sz):growC sz by' n (2 * n) k xs = true:=by
 unfold growC
 have e:(2 * n) / 2 = n:=by omega
 have e2:(2 * n) % 2 = 0:=by omega
 rw [e,e2,hr]
 have b1:Nat.ble (n + k) n = false:=by rw [ble_eq];exact decide_eq_false (by omega)
 have b2:Nat.ble (0 + n * sz) (len xs) = true:=by rw [ble_eq,len_eq,hx];simp
 have b3:Nat.beq (0 + n * sz) (len xs) = true:=by rw [len_eq,hx,Nat.zero_add];exact Nat.beq_refl _
 rw [b1,b2,b3];rfl
theorem roomyB {n b:Nat} (hn:n≤1000) (hb:b≤100):roomy n b = true:=by
 unfold roomy;rw [ble_eq]
 have:=Nat.mul_le_mul (show 4 * n + 4096≤8096 by omega) hb
 simp;omega
theorem wholeN (r:List Nat):an (Nat.ble (0 + r.length * 1) (len ((nI r).map I))) (allL closed1 (takeL (r.length * 1) (dropL 0 ((nI r).map I)))) = true:=by
 have:r.length * 1 = ((nI r).map I).length:=by rw [List.length_map,nI_len,Nat.mul_one]
 rw [Nat.zero_add,this,dropL_eq,List.drop_zero,takeL_eq,List.take_length,clN,len_eq,ble_eq]
 simp
theorem takeN (r:List Nat):takeL (r.length * 1) (dropL 0 ((nI r).map I)) = (nI r).map I:=by
 have:r.length * 1 = ((nI r).map I).length:=by rw [List.length_map,nI_len,Nat.mul_one]
 rw [this,dropL_eq,List.drop_zero,takeL_eq,List.take_length]
theorem takeN' (r:List Nat):takeL (r.length * 1) ((nI r).map I) = (nI r).map I:=by
 have:r.length * 1 = ((nI r).map I).length:=by rw [List.length_map,nI_len,Nat.mul_one]
 rw [this,takeL_eq,List.take_length]
theorem snocN (r:List Nat) (a:Nat):appL (dropL 0 ((nI r).map I)) [I (Int.ofNat a)] = (nI (r ++ [a])).map I:=by
 rw [appL_eq,dropL_eq,List.drop_zero,nI_app,List.map_append];rfl
theorem appN (r t:List Nat):appL (dropL 0 ((nI r).map I)) ((nI t).map I) = (nI (r ++ t)).map I:=by
 rw [appL_eq,dropL_eq,List.drop_zero,nI_app,List.map_append]
theorem snocL (L:List (List Nat)) (r:List Nat):appL (dropL 0 (L.map rv)) [S 0 (nI r)] = (L ++ [r]).map rv:=by
 rw [appL_eq,dropL_eq,List.drop_zero,List.map_append];rfl
theorem wholeL (L:List (List Nat)):an (Nat.ble (0 + L.length * 1) (len (L.map rv))) (allL closed1 (takeL (L.length * 1) (dropL 0 (L.map rv)))) = true:=by
 have:L.length * 1 = (L.map rv).length:=by simp
 rw [Nat.zero_add,this,dropL_eq,List.drop_zero,takeL_eq,List.take_length,clL,len_eq,ble_eq]
 simp
theorem takeLL (L:List (List Nat)):takeL (L.length * 1) (dropL 0 (L.map rv)) = L.map rv:=by
 have:L.length * 1 = (L.map rv).length:=by simp
 rw [this,dropL_eq,List.drop_zero,takeL_eq,List.take_length]
theorem scalN (r:List Nat):allL scalarB ((nI r).map I) = true:=by
 rw [allL_eq,List.all_eq_true];intro x hx;simp at hx;obtain ⟨z,_,rfl⟩:=hx;rfl

theorem l73_scan (m f1 f2 : Nat) (P X : List Nat) (pu : PureF) (ih0 : Sl → Sl → Nat → Nat → Nat → Nat → Int → List Value → List Value → Option Value) (ih1 : Sl → Sl → Nat → Nat → Nat → Nat → Int → Nat → Nat → Int → List Value → List Value → List Value → Option Value)
 (nO cO nM cM nR cR : Nat) (i : Int) (L : List (List Nat)) (M R : List Nat) (a idx : Nat) (hidx : idx < P.length) (ha : P[idx] = a) (hne : ∀ j (h : j < idx), P[j]'(by omega) ≠ a) (h10 : P.length ≤ 10) (hXl : X.length = P.length) :
 ∀ (f j : Nat), idx - j < f → j ≤ idx → l73_6 pu m ih0 ih1 f (sl f1 (nI P)) (sl f2 (nI X)) nO cO nM cM i nR cR (Int.ofNat a) (Int.ofNat j) (L.map rv) ((nI M).map I) ((nI R).map I) =
  ih1 (sl f1 (nI P)) (sl f2 (nI X)) nO cO nM cM i nR cR (Int.ofNat (X[idx]'(by omega))) (L.map rv) ((nI M).map I) ((nI R).map I) := by
 intro f
 induction f with
 | zero=>intro j h;omega
 | succ f ih =>
  intro j h hj
  show b73_6 pu m ih0 ih1 (l73_6 pu m ih0 ih1 f) _ _ _ _ _ _ _ _ _ _ _ _ _ _ = _
  unfold b73_6
  have hjP:j < P.length:=by omega
  simp only [toN_mk,oo_some,sl_n,sl_cs,nI_len,blt_eq,hjP,decide_true,an_eq,Bool.true_and,bb_true,nthL_eq,Nat.mul_one,getN P j hjP,toI_mk,clL,clN]
  by_cases hlt:j < idx
  ·have : nt (ieq (Int.ofNat P[j]) (Int.ofNat a)) = true := by
    have:=hne j hlt
    simp [ieq_eq];omega
   rw [this,bb_true,wrapS j (by omega)]
   exact ih (j + 1) (by omega) (by omega)
  ·have : j = idx := by omega
   subst this
   have e:nt (ieq (Int.ofNat P[j]) (Int.ofNat a)) = false:=by simp [ieq_eq,ha]
   have hjX:j < X.length:=by omega
   rw [e,bb_false]
   unfold m73_5
   simp only [toN_mk,oo_some,sl_n,sl_cs,nI_len,blt_eq,hjX,decide_true,an_eq,Bool.true_and,bb_true,nthL_eq,Nat.mul_one,getN X j hjX,toI_mk,clL,clN]
theorem orb_pos (s : Nat → Nat) : ∀ (k : Nat) (ring : List Nat) (z : Nat), ring ≠ [] ∨ 0 < k → orb s k ring z ≠ []
 | 0,ring,z,h=>by rcases h with h | h;exact h;omega
 | k + 1, ring, z, _ => by
  unfold orb
  cases hc:ring.contains z with
  | true=>rw [cond_true];intro e;subst e;cases hc
  | false=>rw [cond_false];exact orb_pos s k _ _ (.inl (by simp))
theorem orb_in (P X : List Nat) (s : Nat → Nat) (hX : X.length = P.length) (hs : ∀ i (h : i < P.length), s P[i] = X[i]'(by omega)) (hXP : ∀ x ∈ X, x ∈ P) : ∀ (k : Nat) (ring : List Nat) (z : Nat), z ∈ P → ring.Nodup → (∀ x ∈ ring, x ∈ P) → (orb s k ring z).Nodup ∧ ∀ x ∈ orb s k ring z, x ∈ P
 | 0,ring,z,_,hn,hr=>⟨hn,hr⟩
 | k + 1, ring, z, hz, hn, hr => by
  unfold orb
  cases hc:ring.contains z with
  | true=>rw [cond_true];exact ⟨hn,hr⟩
  | false =>
   rw [cond_false]
   have hz':z ∉ ring:=(not_contains ring z).1 hc
   obtain ⟨idx,hidx,hia⟩:=List.getElem_of_mem hz
   refine orb_in P X s hX hs hXP k _ _ (by rw [←hia,hs idx hidx];exact hXP _ (List.getElem_mem _)) (List.nodup_append.2 ⟨hn,by simp,by simp;exact fun a ha e=>hz' (e ▸ ha)⟩) ?_
   intro x hx
   rcases List.mem_append.1 hx with hx | hx
   ·exact hr x hx
   ·rw [List.mem_singleton.1 hx];exact hz
section
variable (n f1 f2 : Nat) (P X : List Nat) (s : Nat → Nat) (hP : P.Nodup) (hP10 : P.length ≤ 10) (hX : X.length = P.length) (hs : ∀ i (h : i < P.length), s P[i] = X[i]'(by omega)) (hXP : ∀ x ∈ X, x ∈ P)
include hP hP10 hX hs hXP
theorem l73_ring (ih0 : Sl → Sl → Nat → Nat → Nat → Nat → Int → List Value → List Value → Option Value) (nO cO nM cM : Nat) (i : Int) (L : List (List Nat)) (M : List Nat) :
 ∀ (f k : Nat) (ring : List Nat) (z : Nat), P.length - ring.length < f → P.length - ring.length < k → z ∈ P → ring.Nodup → (∀ x ∈ ring, x ∈ P) →
  l73_4 (puN (n + 2)) 1000000 ih0 f (sl f1 (nI P)) (sl f2 (nI X)) nO cO nM cM i ring.length (2 * ring.length) (Int.ofNat z) (L.map rv) ((nI M).map I) ((nI ring).map I) =
  m73_3 (puN (n + 2)) 1000000 ih0 (sl f1 (nI P)) (sl f2 (nI X)) nO cO nM cM i (orb s k ring z).length (2 * (orb s k ring z).length) (L.map rv) ((nI M).map I) ((nI (orb s k ring z)).map I):=by
 intro f
 induction f with
 | zero=>intro k ring z h;omega
 | succ f ih =>
  intro k ring z h hk hz hn hr
  obtain ⟨k,rfl⟩:∃ k',k = k' + 1:=⟨k - 1,by omega⟩
  show b73_4 (puN (n + 2)) 1000000 ih0 (l73_4 (puN (n + 2)) 1000000 ih0 f) _ _ _ _ _ _ _ _ _ _ _ _ _ = _
  unfold b73_4
  have hlen:=pigeon ring P hn hr
  have hc:orr (Nat.ble 2 (2 * ring.length)) (nilL ((nI ring).map I)) = true:=by
   cases ring with
   | nil=>rfl
   | cons x l=>rw [show Nat.ble 2 (2 * (x :: l).length) = true from by rw [ble_eq];simp;omega];rfl
  have p:=p10551 n ring z (by omega)
  unfold lv at p
  rw [hc,bb_true,clN,bb_true,p]
  simp only [oo_some,vTup_mk,ll_cons',ll_nil',vBool_mk,vAgg_mk,clN,clL,bb_true]
  unfold orb
  by_cases hm:ring.contains z = true
  ·rw [hm];rfl
  ·rw [Bool.not_eq_true] at hm
   rw [hm]
   have hz':z ∉ ring:=(not_contains ring z).1 hm
   have hn':(ring ++ [z]).Nodup:=List.nodup_append.2 ⟨hn,by simp,by simp;exact fun a ha e=>hz' (e ▸ ha)⟩
   have hr':∀ x ∈ ring ++ [z],x ∈ P:=by
    intro x hx
    rcases List.mem_append.1 hx with hx | hx
    ·exact hr x hx
    ·rw [List.mem_singleton.1 hx];exact hz
   have hlen':=pigeon (ring ++ [z]) P hn' hr'
   rw [List.length_append,List.length_singleton] at hlen'
   obtain ⟨idx,hidx,hia⟩:=List.getElem_of_mem hz
   have hne : ∀ j (hj : j < idx), P[j]'(by omega) ≠ z := fun j hj e => by
    have:=(List.getElem_inj (xs:=P) (i:=j) (j:=idx) (h₀:=by omega) (h₁:=hidx) hP).1 (by rw [e,hia])
    omega
   have hg:=growG 1 8 ring.length 1 ((nI ring).map I) (roomyB (by omega) (by omega)) (by omega) (by rw [List.length_map,nI_len,Nat.mul_one])
   rw [show nt false = true from rfl,bb_true,hg,bb_true,snocN,clN,bb_true]
   have hs2:=l73_scan 1000000 f1 f2 P X (puN (n + 2)) ih0 (l73_4 (puN (n + 2)) 1000000 ih0 f) nO cO nM cM (ring.length + 1) (2 * (ring.length + 1) + bb false 1 0) i L M (ring ++ [z]) z idx hidx hia hne hP10 hX 1000000 0 (by omega) (by omega)
   rw [show (0:Int) = Int.ofNat 0 from rfl,hs2]
   have:=ih k (ring ++ [z]) (s z) (by rw [List.length_append,List.length_singleton];omega) (by rw [List.length_append,List.length_singleton];omega) (by rw [←hia,hs idx hidx];exact hXP _ (List.getElem_mem _)) hn' hr'
   rw [List.length_append,List.length_singleton] at this
   rw [show X[idx]'(by omega) = s z from by rw [← hs idx hidx, hia]]
   simp only [bb_false,Nat.add_zero]
   exact this
theorem l73 : ∀ (f i : Nat) (L : List (List Nat)) (M : List Nat), P.length - i < f → i ≤ P.length → L.length ≤ i → M.length ≤ 10 * i →
 l73_1 (puN (n + 2)) 1000000 f (sl f1 (nI P)) (sl f2 (nI X)) L.length (2 * L.length) M.length (2 * M.length) (Int.ofNat i) (L.map rv) ((nI M).map I) = some (Sl.v 1 (LL 0 (L ++ nl s 11 (P.drop i) M))):=by
 intro f
 induction f with
 | zero=>intro i L M h;omega
 | succ f ih =>
  intro i L M h hi hL hM
  show b73_1 (puN (n + 2)) 1000000 (l73_1 (puN (n + 2)) 1000000 f) _ _ _ _ _ _ _ _ _ = _
  unfold b73_1
  rw [clL,bb_true,clN,bb_true]
  by_cases hlt:i < P.length
  ·have e : P.drop i = P[i] :: P.drop (i + 1) := List.drop_eq_getElem_cons hlt
   have hc:orr (Nat.ble 2 (2 * M.length)) (nilL ((nI M).map I)) = true:=by
    cases M with
    | nil=>rfl
    | cons x l=>rw [show Nat.ble 2 (2 * (x :: l).length) = true from by rw [ble_eq];simp;omega];rfl
   have p:=p10551 n M P[i] (by omega)
   unfold lv at p
   rw [sl_n,nI_len,lt_true hlt]
   simp only [bb_true,toN_mk,oo_some,sl_n,sl_cs,nI_len,blt_eq,hlt,decide_true,an_eq,Bool.true_and,nthL_eq,Nat.mul_one,getN P i hlt,toI_mk,hc,clN]
   rw [p]
   simp only [oo_some,vTup_mk,ll_cons',ll_nil',vBool_mk,vAgg_mk,clN,bb_true]
   rw [e]
   unfold nl
   cases hm:M.contains P[i] with
   | true =>
    rw [bb_true,cond_true]
    unfold m73_2
    rw [clL,bb_true,clN,bb_true,wrapS i (by omega)]
    exact ih (i + 1) L M (by omega) (by omega) (by omega) (by omega)
   | false =>
    rw [bb_false,cond_false]
    have hr:=l73_ring n f1 f2 P X s hP hP10 hX hs hXP (l73_1 (puN (n + 2)) 1000000 f) L.length (2 * L.length) M.length (2 * M.length) (Int.ofNat i) L M 1000000 11 [] P[i] (by omega) (by simp;omega) (List.getElem_mem _) (by simp) (by simp)
    have hr0:l73_4 (puN (n + 2)) 1000000 (l73_1 (puN (n + 2)) 1000000 f) 1000000 (sl f1 (nI P)) (sl f2 (nI X)) L.length (2 * L.length) M.length (2 * M.length) (Int.ofNat i) 0 0 (Int.ofNat P[i]) (L.map rv) ((nI M).map I) ([]:List Value) = _:=hr
    rw [hr0]
    have hin:=orb_in P X s hX hs hXP 11 [] P[i] (List.getElem_mem _) (by simp) (by simp)
    have hpos:=orb_pos s 11 [] P[i] (.inr (by omega))
    generalize orb s 11 [] P[i] = R at *
    have hRl:=pigeon R P hin.1 hin.2
    have hR1:1≤R.length:=by cases R with | nil=>exact absurd rfl hpos | cons a r=>simp
    unfold m73_3
    have g1:=growG 1 24 L.length 1 (L.map rv) (roomyB (by omega) (by omega)) (by omega) (by rw [List.length_map,Nat.mul_one])
    have g2:=growG 1 8 M.length R.length ((nI M).map I) (roomyB (by omega) (by omega)) hR1 (by rw [List.length_map,nI_len,Nat.mul_one])
    have z0:Nat.beq R.length 0 = false:=by cases R with | nil=>exact absurd rfl hpos | cons a r=>rfl
    have sR:Sl.v 1 (Sl.mk R.length 0 ((nI R).map I)) = S 0 (nI R):=by unfold S sl;rw [nI_len]
    have g3:an (allL scalarB ((nI R).map I)) (growC 1 8 M.length (2 * M.length) R.length ((nI M).map I)) = true:=by rw [scalN,g2];rfl
    rw [wholeN,bb_true]
    simp only [takeN,takeN',sR,snocL,appN,clL,clN,bb_true,g1,g3,z0,bb_false]
    unfold m73_2
    rw [clL,bb_true,clN,bb_true,wrapS i (by omega)]
    have:=ih (i + 1) (L ++ [R]) (M ++ R) (by omega) (by omega) (by simp;omega) (by simp;omega)
    rw [List.length_append,List.length_append,List.length_singleton] at this
    simp only [Nat.add_zero]
    rw [this,List.append_assoc];rfl
  ·have : i = P.length := by omega
   subst this
   rw [sl_n,nI_len,lt_false hlt,bb_false,List.drop_length]
   unfold m73_0
   rw [clL,bb_true,wholeL,bb_true,takeLL]
   unfold nl
   rw [List.append_nil];rfl
theorem p73:puN (n + 3) 73 [S f1 (nI P),S f2 (nI X)] = some (Sl.v 1 (LL 0 (nl s 11 P []))):=by
 refine Eq.trans (b:=m73_ (puN (n + 2)) 1000000 (sl f1 (nI P)) (sl f2 (nI X))) (by kernel_rfl) ?_
 unfold m73_
 have:=l73 n f1 f2 P X s hP hP10 hX hs hXP 1000000 0 [] [] (by omega) (by omega) (by simp) (by simp)
 rw [List.drop_zero,List.nil_append] at this
 exact this
end
end Go.MdFM
set_option maxRecDepth 100000
namespace Go.MdFM
open Go.Sp Go.MdF Go.MdM

def cmp : List Nat → List Nat → Option Bool
 | [],[]=>none
 | [],_ :: _=>some true
 | _ :: _,[]=>some false
 | a :: x,b :: y=>if a = b then cmp x y else some (decide (a < b))
theorem cmp_none : ∀ (a b : List Nat), cmp a b = none → a = b
 | [],[],_=>rfl
 | [],_ :: _,h=>by cases h
 | _ :: _,[],h=>by cases h
 | a :: x, b :: y, h => by
  unfold cmp at h
  split at h
  ·rename_i e;rw [e,cmp_none x y h]
  ·cases h
theorem cmp_some : ∀ (a b : List Nat) (v : Bool), cmp a b = some v → a ≠ b ∧ (v = true ↔ llt a b)
 | [],[],_,h=>by cases h
 | [],_ :: _,v,h=>by injection h with h;subst h;exact ⟨by simp,by simp [llt]⟩
 | _ :: _,[],v,h=>by injection h with h;subst h;exact ⟨by simp,by simp [llt]⟩
 | a :: x, b :: y, v, h => by
  unfold cmp at h
  split at h
  ·rename_i e
   obtain ⟨h1,h2⟩:=cmp_some x y v h
   refine ⟨fun g=>h1 (by injection g),h2.trans ?_⟩
   subst e
   simp [llt]
  ·rename_i e
   injection h with h;subst h
   refine ⟨fun g=>e (by injection g),?_⟩
   simp [llt,e]

theorem getLL (L:List (List Nat)) (i:Nat) (h:i < L.length):(L.map rv)[i]? = some (Sl.v 1 (sl 0 (nI L[i]))):=by simp [h,rv,S]
theorem toSl_sl (fl:Nat) (l:List Int):toSl 1 (Sl.v 1 (sl fl l)) = some (sl fl l):=rfl
section
variable (pu:PureF) (m:Nat) (A B:List (List Nat)) (hAB:A.length = B.length)
theorem l74_in (ih0 : Sl → Sl → Int → Option Value) (i : Nat) (hi : i < A.length) (hi' : i < B.length) (hA : A[i].length < 1000) : ∀ (f k : Nat), A[i].length - k < f → k ≤ A[i].length → k ≤ B[i].length → A[i].take k = B[i].take k →
 l74_4 pu m ih0 f (LL 0 A) (LL 0 B) (Int.ofNat i) (Int.ofNat k) = match cmp (A[i].drop k) (B[i].drop k) with | none=>m74_2 pu m ih0 (LL 0 A) (LL 0 B) (Int.ofNat i) | some b=>some (.bool b):=by
 intro f
 induction f with
 | zero=>intro k h;omega
 | succ f ih =>
  intro k h hk hkB hp
  show b74_4 pu m ih0 (l74_4 pu m ih0 f) _ _ _ _ = _
  unfold b74_4
  have e0:m74_3 pu m ih0 (LL 0 A) (LL 0 B) (Int.ofNat i) = bb (nt (ieq (Int.ofNat A[i].length) (Int.ofNat B[i].length))) (some (.bool (ilt (Int.ofNat A[i].length) (Int.ofNat B[i].length)))) (m74_2 pu m ih0 (LL 0 A) (LL 0 B) (Int.ofNat i)):=by
   unfold m74_3
   simp only [toN_mk,oo_some,LL,blt_eq,hi,hi',decide_true,an_eq,Bool.true_and,bb_true,nthL_eq,Nat.mul_one,getLL A i hi,getLL B i hi',toSl_sl,sl_n,nI_len]
  simp only [toN_mk,oo_some,LL,blt_eq,hi,hi',decide_true,an_eq,Bool.true_and,bb_true,nthL_eq,Nat.mul_one,getLL A i hi,getLL B i hi',toSl_sl,sl_n,nI_len]
  by_cases h1:k < A[i].length
  ·have d1 : A[i].drop k = A[i][k] :: A[i].drop (k + 1) := List.drop_eq_getElem_cons h1
   rw [lt_true h1,bb_true]
   by_cases h2:k < B[i].length
   ·have d2 : B[i].drop k = B[i][k] :: B[i].drop (k + 1) := List.drop_eq_getElem_cons h2
    rw [lt_true h2,d1,d2]
    unfold m74_5
    simp only [bb_true,toN_mk,oo_some,blt_eq,hi,hi',decide_true,an_eq,Bool.true_and,nthL_eq,Nat.mul_one,getLL A i hi,getLL B i hi',toSl_sl,sl_n,nI_len,sl_cs,h1,h2,getN A[i] k h1,getN B[i] k h2,toI_mk]
    unfold cmp
    by_cases hc:A[i][k] = B[i][k]
    ·have : nt (ieq (Int.ofNat A[i][k]) (Int.ofNat B[i][k])) = false := by simp [ieq_eq, hc]
     rw [this,bb_false,if_pos hc,wrapS k (by omega)]
     refine ih (k + 1) (by omega) (by omega) (by omega) ?_
     rw [List.take_succ_eq_append_getElem h1,List.take_succ_eq_append_getElem h2,hp,hc]
    ·have : nt (ieq (Int.ofNat A[i][k]) (Int.ofNat B[i][k])) = true := by simp [ieq_eq]; omega
     rw [this,bb_true,if_neg hc]
     congr 2
     rw [ilt_eq,Bool.eq_iff_iff,decide_eq_true_iff,decide_eq_true_iff];simp
   ·have hB : B[i].length = k := by omega
    rw [lt_false h2]
    unfold m74_5
    rw [bb_false]
    have e0':=e0
    unfold LL at e0'
    rw [e0',d1,List.drop_of_length_le (by omega:B[i].length≤k)]
    have:nt (ieq (Int.ofNat A[i].length) (Int.ofNat B[i].length)) = true:=by simp [ieq_eq];omega
    rw [this,bb_true,show ilt (Int.ofNat A[i].length) (Int.ofNat B[i].length) = false from lt_false (by omega)]
    rfl
  ·have hA' : A[i].length = k := by omega
   rw [lt_false h1,bb_false]
   unfold m74_5
   rw [bb_false]
   have e0':=e0
   unfold LL at e0'
   rw [e0',List.drop_of_length_le (by omega:A[i].length≤k)]
   by_cases h2:k < B[i].length
   ·have d2 : B[i].drop k = B[i][k] :: B[i].drop (k + 1) := List.drop_eq_getElem_cons h2
    have:nt (ieq (Int.ofNat A[i].length) (Int.ofNat B[i].length)) = true:=by simp [ieq_eq];omega
    rw [d2,this,bb_true,show ilt (Int.ofNat A[i].length) (Int.ofNat B[i].length) = true from lt_true (by omega)]
    rfl
   ·have : nt (ieq (Int.ofNat A[i].length) (Int.ofNat B[i].length)) = false := by simp [ieq_eq]; omega
    rw [this,bb_false,List.drop_of_length_le (by omega:B[i].length≤k)]
    rfl
include hAB
theorem l74 (hA:∀ r ∈ A,r.length < 1000) (hAl:A.length < 1000):∀ (f i:Nat),A.length - i < f→i≤A.length→∃ b,l74_1 pu 1000000 f (LL 0 A) (LL 0 B) (Int.ofNat i) = some (.bool b)∧(b = true↔bef (A.drop i) (B.drop i)):=by
 intro f
 induction f with
 | zero=>intro i h;omega
 | succ f ih =>
  intro i h hi
  show ∃ b,b74_1 pu 1000000 (l74_1 pu 1000000 f) _ _ _ = _∧_
  unfold b74_1
  by_cases hlt:i < A.length
  ·have d1 : A.drop i = A[i] :: A.drop (i + 1) := List.drop_eq_getElem_cons hlt
   have d2:B.drop i = B[i] :: B.drop (i + 1):=List.drop_eq_getElem_cons (by omega)
   rw [show (LL 0 A).n = A.length from rfl,lt_true hlt,bb_true,d1,d2]
   have hl:=hA _ (List.getElem_mem hlt)
   have e:=l74_in pu 1000000 A B (l74_1 pu 1000000 f) i hlt (by omega) hl 1000000 0 (by omega) (by omega) (by omega) rfl
   rw [List.drop_zero,List.drop_zero] at e
   rw [show (0:Int) = Int.ofNat 0 from rfl,e]
   cases hc:cmp A[i] B[i] with
   | none =>
    have he:=cmp_none _ _ hc
    obtain ⟨b,e1,e2⟩:=ih (i + 1) (by omega) (by omega)
    refine ⟨b,?_,e2.trans ?_⟩
    ·show m74_2 pu 1000000 _ _ _ _ = _
     unfold m74_2
     rw [wrapS i (by omega)];exact e1
    ·rw [he]
     show _↔llt B[i] B[i]∨(B[i] = B[i]∧_)
     simp [llt_irr]
   | some v =>
    obtain ⟨h1,h2⟩:=cmp_some _ _ _ hc
    refine ⟨v,rfl,h2.trans ?_⟩
    show _↔llt A[i] B[i]∨(A[i] = B[i]∧_)
    simp [h1]
  ·rw [show (LL 0 A).n = A.length from rfl, lt_false hlt, bb_false]
   refine ⟨false,rfl,?_⟩
   rw [List.drop_of_length_le (by omega),List.drop_of_length_le (by omega)]
   simp [bef]
end
theorem p74 (n:Nat) (A B:List (List Nat)) (hAB:A.length = B.length) (hA:∀ r ∈ A,r.length < 1000) (hAl:A.length < 1000):∃ b,puN (n + 1) 74 [Sl.v 1 (LL 0 A),Sl.v 1 (LL 0 B)] = some (.bool b)∧(b = true↔bef A B):=by
 obtain ⟨b,e,h⟩:=l74 (puN n) A B hAB hA hAl 1000000 0 (by omega) (by omega)
 refine ⟨b,?_,h⟩
 refine Eq.trans (b:=m74_ (puN n) 1000000 (LL 0 A) (LL 0 B)) (by kernel_rfl) ?_
 exact e
end Go.MdFM
set_option maxRecDepth 100000
namespace Go.MdFM
open Go.Sp Go.MdF Go.MdM

theorem rv_inj {a b:List Nat} (h:rv a = rv b):a = b:=by
 have h1:toSl 1 (rv a) = toSl 1 (rv b):=by rw [h]
 rw [show toSl 1 (rv a) = some (sl 0 (nI a)) from rfl,show toSl 1 (rv b) = some (sl 0 (nI b)) from rfl] at h1
 injection h1 with h1
 have h2:(sl 0 (nI a)).cs = (sl 0 (nI b)).cs:=by rw [h1]
 simp only [sl_cs,nI,List.map_map] at h2
 exact List.map_inj_right (fun x y g=>by simp at g;omega) |>.1 h2
theorem LL_inj {a b:List (List Nat)} (h:LL 0 a = LL 0 b):a = b:=by
 have h2:(LL 0 a).cs = (LL 0 b).cs:=by rw [h]
 exact (List.map_inj_right (fun x y g=>rv_inj g)).1 h2
def nilB:Sl:=⟨0,2,[]⟩
section
variable (h w:List Int) (s0:Nat) (G:List (List Nat)) (hN:h.length≤10) (hw:w.length = h.length) (hs0:s0 < 2 ^ h.length)
abbrev PL:List Nat:=els h.length (tb s0)
def Ext (X:List Nat) (s:Nat→Nat):Prop:=∀ i (hi:i < X.length) (hp:i < (PL h s0).length),s (PL h s0)[i] = X[i]
def Go2 (X:List Nat):Prop:=∃ s,Vd h.length (fn h) (fn w) (tb s0) s∧Ext h s0 X s∧nl s 11 (PL h s0) [] = G
def OkX (X:List Nat):Prop:=X.length≤(PL h s0).length∧X.Nodup∧(∀ x ∈ X,x ∈ PL h s0)∧∀ i (hi:i < X.length) (hp:i < (PL h s0).length),fn h X[i] = fn w (PL h s0)[i]
def OkB (b:Sl):Prop:=b = nilB∨∃ L,b = LL 0 L∧L ≠ []∧Dv h.length (fn h) (fn w) (tb s0) L
def First:Prop:=G ≠ []∧G.length = M h.length (fn h) (fn w) (tb s0)∧∀ L,Dv h.length (fn h) (fn w) (tb s0) L→L = G∨L.length < M h.length (fn h) (fn w) (tb s0)∨(L.length = M h.length (fn h) (fn w) (tb s0)∧bef G L)
def Di (n d : Nat) : Prop := ∀ (f1 f2 fX fP : Nat) (k : Int) (X : List Nat) (b : Sl), (PL h s0).length ≤ X.length + d → OkX h w s0 X → OkB h w s0 b →
 ∃ o,puN n 10700 [tr f1 f2 k h w,S fP (nI (PL h s0)),S fX (nI X),Sl.v 1 b] = some (.tuple ⟨[Sl.v 1 o]⟩)∧OkB h w s0 o∧(b = LL 0 G→o = LL 0 G)∧(Go2 h w s0 G X→o = LL 0 G)

theorem Dv_mem {N : Nat} {H W : Nat → Int} : ∀ (L : List (List Nat)) (S : PS), Dv N H W S L → ∀ r ∈ L, r.length ≤ N + 1
 | [],_,_,r,hr=>by cases hr
 | q :: L, S, hD, r, hr => by
  obtain ⟨f,e,rfl,⟨h1,h2,_⟩,h4,h5⟩:=hD
  rcases List.mem_cons.1 hr with rfl | hr
  ·have := pigeon e (List.range N) (Rn_nodup e _ _ h4) (fun x hx => by have := (Rn_mem e _ _ h4 x hx).1; simpa using this)
   rw [List.length_range] at this
   simp;omega
  ·exact Dv_mem L _ h5 r hr
theorem Dv_len {N:Nat} {H W:Nat→Int} {L:List (List Nat)} {S:PS} (h:Dv N H W S L):L.length≤N:=Nat.le_trans (Dv_le L S h).2 (M_lt N H W S)

include hN in
theorem PL10:(PL h s0).length≤10:=by
 unfold PL;rw [els_len];unfold card;exact Nat.le_trans List.countP_le_length (by simpa using hN)
theorem PLnd:(PL h s0).Nodup:=by unfold PL els;exact List.nodup_range.filter _
theorem PLget {i:Nat} (hp:i < (PL h s0).length):(PL h s0)[i] < h.length∧tb s0 (PL h s0)[i] = true:=mem_els.1 (List.getElem_mem hp)
theorem way_of {X : List Nat} (hX : OkX h w s0 X) (hl : X.length = (PL h s0).length) : ∃ s, Vd h.length (fn h) (fn w) (tb s0) s ∧ ∀ i (hi : i < (PL h s0).length), s (PL h s0)[i] = X[i]'(by omega) := by
 obtain ⟨_,hn,hm,hk⟩:=hX
 refine ⟨fun p=>X.getD ((PL h s0).idxOf p) 0,?_⟩
 have hs : ∀ i (hi : i < (PL h s0).length), X.getD ((PL h s0).idxOf (PL h s0)[i]) 0 = X[i]'(by omega) := by
  intro i hi
  rw [(PLnd h s0).idxOf_getElem i hi,List.getD_eq_getElem?_getD,List.getElem?_eq_getElem (by omega),Option.getD_some]
 refine ⟨⟨?_,?_⟩,hs⟩
 ·intro i hi hS
  obtain ⟨j,hj,rfl⟩:=List.getElem_of_mem (show i ∈ PL h s0 from mem_els.2 ⟨hi,hS⟩)
  simp only [hs j hj]
  obtain ⟨g1,g2⟩:=mem_els.1 (hm _ (List.getElem_mem (by omega:j < X.length)))
  exact ⟨g1,g2,hk j (by omega) hj⟩
 ·intro a b ha hb hA hB e
  obtain ⟨i,hi,rfl⟩:=List.getElem_of_mem (show a ∈ PL h s0 from mem_els.2 ⟨ha,hA⟩)
  obtain ⟨j,hj,rfl⟩:=List.getElem_of_mem (show b ∈ PL h s0 from mem_els.2 ⟨hb,hB⟩)
  have e:X.getD ((PL h s0).idxOf (PL h s0)[i]) 0 = X.getD ((PL h s0).idxOf (PL h s0)[j]) 0:=e
  rw [hs i hi,hs j hj] at e
  have:=(List.getElem_inj hn).1 e
  subst this;rfl
theorem end10700 (pu:PureF) (n:Nat) (b o:Sl) (c:Bool):m10700_0 pu n b o c = some (.tuple ⟨[Sl.v 1 (bif c then o else b)]⟩):=by unfold m10700_0;cases c <;> rfl
include hN hw in
theorem leaf (hG : First h w s0 G) (n f1 f2 fX fP : Nat) (k : Int) (X : List Nat) (b : Sl) (hl : X.length = (PL h s0).length) (hX : OkX h w s0 X) (hb : OkB h w s0 b) (hP0 : PL h s0 ≠ []) :
 ∃ o,m10700_ (puN (n + 3)) 1000000 k (sl f1 h) (sl f2 w) (sl fP (nI (PL h s0))) (sl fX (nI X)) b = some (.tuple ⟨[Sl.v 1 o]⟩)∧OkB h w s0 o∧(b = LL 0 G→o = LL 0 G)∧(Go2 h w s0 G X→o = LL 0 G):=by
 -- the way of this list
 have hex : ∃ s, Vd h.length (fn h) (fn w) (tb s0) s ∧ (∀ i (hi : i < (PL h s0).length), s (PL h s0)[i] = X[i]'(by omega)) ∧ (Go2 h w s0 G X → nl s 11 (PL h s0) [] = G) := by
  by_cases hg:Go2 h w s0 G X
  ·obtain ⟨s, g1, g2, g3⟩ := hg
   exact ⟨s,g1,fun i hi=>g2 i (by omega) hi,fun _=>g3⟩
  ·obtain ⟨s, g1, g2⟩ := way_of h w s0 hX hl
   exact ⟨s,g1,g2,fun g=>absurd g hg⟩
 obtain ⟨s,hv,hs,hgo⟩:=hex
 have hDv:=way_div hv (show h.length < 11 by omega)
 have p:=p73 n fP fX (PL h s0) X s (PLnd h s0) (PL10 h s0 hN) hl hs hX.2.2.1
 change Dv h.length (fn h) (fn w) (tb s0) (nl s 11 (PL h s0) []) at hDv
 have hL0:nl s 11 (PL h s0) [] ≠ []:=by
  intro e
  rw [e] at hDv
  obtain ⟨x,hx⟩:=List.exists_mem_of_ne_nil _ hP0
  obtain ⟨x1,x2⟩:=mem_els.1 hx
  rw [hDv x x1] at x2;cases x2
 generalize nl s 11 (PL h s0) [] = L at *
 obtain ⟨hG0,hGl,hGb⟩:=hG
 unfold m10700_
 have e1:ieq (Int.ofNat (sl fX (nI X)).n) (Int.ofNat (sl fP (nI (PL h s0))).n) = true:=by simp [ieq_eq,nI_len,hl]
 unfold S at p
 rw [e1,bb_true,p]
 simp only [oo_some,toSl_mk]
 have hLn:(LL 0 L).n = L.length:=rfl
 have hLok:OkB h w s0 (LL 0 L):=.inr ⟨L,rfl,hL0,hDv⟩
 rcases hb with rfl | ⟨B,rfl,hB0,hBD⟩
 ·refine ⟨LL 0 L, ?_, hLok, ?_, fun g => by rw [hgo g]⟩
  ·exact (end10700 (puN (n + 3)) 1000000 nilB (LL 0 L) true)
  ·intro e
   have e2:(2:Nat) = (LL 0 G).fl:=by rw [←e];rfl
   cases e2
 ·have hBn : (LL 0 B).n = B.length := rfl
  have hB1:1≤B.length:=by cases B with | nil=>exact absurd rfl hB0 | cons a r=>simp
  have c1:orr (Nat.beq (LL 0 B).fl 2) (orr (Nat.beq (LL 0 B).fl 3) (Nat.ble 1 (LL 0 B).n)) = true:=by
   rw [show Nat.ble 1 (LL 0 B).n = true from by rw [hBn,ble_eq];simp;omega];rfl
  rw [c1,bb_true,show bq true (Nat.beq (LL 0 B).fl 2) = false from rfl,bb_false,hLn,hBn]
  have fin : ∀ c : Bool, (L.length < M h.length (fn h) (fn w) (tb s0) → B = G → c = false) → (L = G → B ≠ G → c = true) → (L.length = M h.length (fn h) (fn w) (tb s0) → bef G L → B = G → c = false) →
   ∃ o,m10700_0 (puN (n + 3)) 1000000 (LL 0 B) (LL 0 L) c = some (.tuple ⟨[Sl.v 1 o]⟩)∧OkB h w s0 o∧(LL 0 B = LL 0 G→o = LL 0 G)∧(Go2 h w s0 G X→o = LL 0 G):=by
   intro c k1 k2 k3
   refine ⟨_,end10700 _ _ _ _ c,?_,?_,?_⟩
   ·cases c
    ·exact .inr ⟨B,rfl,hB0,hBD⟩
    ·exact hLok
   ·intro e
    have eB:=LL_inj e
    rcases hGb L hDv with g | g | ⟨g,g'⟩
    ·cases c
     ·exact e
     ·show LL 0 L = _;rw [g]
    ·rw [k1 g eB];exact e
    ·rw [k3 g g' eB];exact e
   ·intro g
    have eL:=hgo g
    by_cases eB:B = G
    ·cases c
     ·show LL 0 B = _;rw [eB]
     ·show LL 0 L = _;rw [eL]
    ·rw [k2 eL eB];show LL 0 L = _;rw [eL]
  by_cases h1:B.length < L.length
  ·rw [lt_true h1, bb_true]
   have hLM:=(Dv_le L _ hDv).2
   refine fin true (fun g e=>?_) (fun _ _=>rfl) (fun g g' e=>?_)
   ·subst e;omega
   ·subst e;omega
  ·rw [lt_false h1, bb_false]
   by_cases h2:L.length = B.length
   ·have e2 : ieq (Int.ofNat L.length) (Int.ofNat B.length) = true := by simp [ieq_eq, h2]
    obtain ⟨v,q1,q2⟩:=p74 (n + 2) L B h2 (fun r hr=>by have:=Dv_mem L _ hDv r hr;omega) (by have:=Dv_len hDv;omega)
    rw [e2,bb_true,q1]
    simp only [oo_some,vBool_mk]
    refine fin v (fun g e=>?_) (fun e e'=>?_) (fun g g' e=>?_)
    ·subst e;omega
    ·subst e
     rcases hGb B hBD with g | g | ⟨g,g'⟩
     ·exact absurd g e'
     ·omega
     ·exact q2.2 g'
    ·subst e
     cases v with
     | false=>rfl
     | true=>exact absurd (q2.1 rfl) (bef_asym _ _ g')
   ·have e2 : ieq (Int.ofNat L.length) (Int.ofNat B.length) = false := by simp [ieq_eq]; omega
    rw [e2,bb_false]
    refine fin false (fun _ _=>rfl) (fun e e'=>?_) (fun _ _ _=>rfl)
    subst e
    rcases hGb B hBD with g | g | ⟨g,g'⟩
    ·exact absurd g e'
    ·omega
    ·omega
end
end Go.MdFM
set_option maxRecDepth 100000
namespace Go.MdFM
open Go.Sp Go.MdF Go.MdM

section
variable (h w:List Int) (s0:Nat) (G:List (List Nat)) (hN:h.length≤10) (hw:w.length = h.length) (hG:First h w s0 G) (hP0:PL h s0 ≠ [])
theorem OkX_snoc {X:List Nat} (hX:OkX h w s0 X) {p:Nat} (hl:X.length < (PL h s0).length) (hp:p ∈ PL h s0) (hn:p ∉ X) (hk:fn h p = fn w (PL h s0)[X.length]):OkX h w s0 (X ++ [p]):=by
 obtain ⟨h1,h2,h3,h4⟩:=hX
 refine ⟨by simp;omega,List.nodup_append.2 ⟨h2,by simp,by simp;exact fun a ha e=>hn (e ▸ ha)⟩,?_,?_⟩
 ·intro x hx
  rcases List.mem_append.1 hx with hx | hx
  ·exact h3 x hx
  ·rw [List.mem_singleton.1 hx];exact hp
 ·intro i hi hip
  by_cases hlt:i < X.length
  ·rw [List.getElem_append_left hlt];exact h4 i hlt hip
  ·have : i = X.length := by simp at hi; omega
   subst this
   rw [List.getElem_append_right (Nat.le_refl _)]
   simpa using hk
def Go3 (X:List Nat) (i:Nat):Prop:=∃ s,Vd h.length (fn h) (fn w) (tb s0) s∧Ext h s0 X s∧nl s 11 (PL h s0) [] = G∧∃ j,∃ hj:j < (PL h s0).length,∃ hx:X.length < (PL h s0).length,i≤j∧s (PL h s0)[X.length] = (PL h s0)[j]
include hN hw
theorem l10700 (n d f1 f2 fX fP : Nat) (k : Int) (X : List Nat) (hd : (PL h s0).length ≤ X.length + (d + 1)) (hl : X.length < (PL h s0).length) (hX : OkX h w s0 X) (hDi : Di h w s0 G (n + 2) d) :
 ∀ (f i : Nat) (b : Sl), (PL h s0).length - i < f → i ≤ (PL h s0).length → OkB h w s0 b →
  ∃ o,l10700_2 (puN (n + 2)) 1000000 f (sl fP (nI (PL h s0))) (sl fX (nI X)) b (Int.ofNat i) k (sl f1 h) (sl f2 w) = some (.tuple ⟨[Sl.v 1 o]⟩)∧OkB h w s0 o∧(b = LL 0 G→o = LL 0 G)∧(Go3 h w s0 G X i→o = LL 0 G):=by
 have h10:=PL10 h s0 hN
 intro f
 induction f with
 | zero=>intro i b hi;omega
 | succ f ih =>
  intro i b hi hil hb
  show ∃ o,b10700_2 (puN (n + 2)) 1000000 (l10700_2 (puN (n + 2)) 1000000 f) _ _ _ _ _ _ _ = _∧_
  unfold b10700_2
  by_cases hlt:i < (PL h s0).length
  ·obtain ⟨p1, p2⟩ := PLget h s0 hlt
   obtain ⟨q1,q2⟩:=PLget h s0 hl
   have hpw:(PL h s0)[X.length] < w.length:=by omega
   rw [sl_n,nI_len,lt_true hlt]
   simp only [bb_true,toN_mk,oo_some,sl_n,sl_cs,nI_len,blt_eq,hlt,hl,decide_true,an_eq,Bool.true_and,nthL_eq,Nat.mul_one,getN (PL h s0) i hlt,getN (PL h s0) X.length hl,toI_mk,p1,hpw,getI h _ p1,getI w _ hpw]
   have skip : ∀ b', OkB h w s0 b' → (b = LL 0 G → b' = LL 0 G) → ((∃ s, Vd h.length (fn h) (fn w) (tb s0) s ∧ Ext h s0 X s ∧ nl s 11 (PL h s0) [] = G ∧ s (PL h s0)[X.length] = (PL h s0)[i]) → b' = LL 0 G) →
    ∃ o,m10700_3 (puN (n + 2)) 1000000 (l10700_2 (puN (n + 2)) 1000000 f) (sl fP (nI (PL h s0))) (sl fX (nI X)) b' (Int.ofNat i) k (sl f1 h) (sl f2 w) = some (.tuple ⟨[Sl.v 1 o]⟩)∧OkB h w s0 o∧(b = LL 0 G→o = LL 0 G)∧(Go3 h w s0 G X i→o = LL 0 G):=by
    intro b' k1 k2 k3
    unfold m10700_3
    rw [wrapS i (by omega)]
    obtain ⟨o,e1,e2,e3,e4⟩:=ih (i + 1) b' (by omega) (by omega) k1
    refine ⟨o,e1,e2,fun g=>e3 (k2 g),fun ⟨s,g1,g2,g3,j,hj,hx,g4,g5⟩=>?_⟩
    by_cases hij:j = i
    ·subst hij;exact e3 (k3 ⟨s,g1,g2,g3,g5⟩)
    ·exact e4 ⟨s,g1,g2,g3,j,hj,hx,by omega,g5⟩
   by_cases c1:h[(PL h s0)[i]] = w[(PL h s0)[X.length]]
   ·have : ieq h[(PL h s0)[i]] w[(PL h s0)[X.length]] = true := by rw [ieq_eq, c1]; simp
    rw [this,bb_true]
    have ph:=p10550 n fX X (PL h s0)[i] (by omega)
    unfold S at ph
    rw [ph]
    simp only [oo_some,vTup_mk,ll_cons',ll_nil',vBool_mk]
    cases hc:X.contains (PL h s0)[i] with
    | true =>
     unfold m10700_4
     rw [show nt true = false from rfl,bb_false]
     refine skip b hb (fun g=>g) (fun ⟨s,g1,g2,g3,g5⟩=>?_)
     exfalso
     obtain ⟨j,hj,hje⟩:=List.getElem_of_mem ((contains_iff X _).1 hc)
     have g6:=g2 j hj (by omega)
     rw [hje,←g5] at g6
     obtain ⟨r1,r2⟩:=PLget h s0 (show j < (PL h s0).length by omega)
     have:=g1.2 _ _ r1 q1 r2 q2 g6
     have:=(List.getElem_inj (PLnd h s0)).1 this
     omega
    | false =>
     have hnX:=(not_contains X _).1 hc
     have hXs:=OkX_snoc h w s0 hX hl (List.getElem_mem hlt) hnX (by rw [fn_get p1,fn_get hpw,c1])
     obtain ⟨o,e1,e2,e3,e4⟩:=hDi f1 f2 0 fP k (X ++ [(PL h s0)[i]]) b (by simp;omega) hXs hb
     have hcall : m10700_4 (puN (n + 2)) 1000000 (l10700_2 (puN (n + 2)) 1000000 f) (sl fP (nI (PL h s0))) (sl fX (nI X)) b (Int.ofNat i) (Int.ofNat (PL h s0)[i]) (nt false) k (sl f1 h) (sl f2 w) =
      m10700_3 (puN (n + 2)) 1000000 (l10700_2 (puN (n + 2)) 1000000 f) (sl fP (nI (PL h s0))) (sl fX (nI X)) o (Int.ofNat i) k (sl f1 h) (sl f2 w):=by
      unfold m10700_4
      rw [show nt false = true from rfl,bb_true]
      unfold tr S at e1
      cases X with
      | nil =>
       have e1':puN (n + 2) 10700 [.agg ⟨[.int .i64 k,Sl.v 1 (sl f1 h),Sl.v 1 (sl f2 w)]⟩,Sl.v 1 (sl fP (nI (PL h s0))),Sl.v 1 (Sl.mk 1 0 (takeL (1 * 1) (dropL 0 ([I (Int.ofNat (PL h s0)[i])]:List Value)))),Sl.v 1 b] = some (.tuple ⟨[Sl.v 1 o]⟩):=e1
       rw [show Nat.beq (sl fX (nI [])).n 0 = true from rfl,bb_true,e1']
       simp only [oo_some,vTup_mk,ll_cons',ll_nil',toSl_mk]
      | cons x X' =>
       have z0:Nat.beq (sl fX (nI (x :: X'))).n 0 = false:=rfl
       have hlx:(sl fX (nI (x :: X'))).n = (x :: X').length:=by rw [sl_n,nI_len]
       have r1:=roomyB (b:=8) (show (x :: X').length≤1000 by omega) (by omega)
       have g1:=growG 1 8 (x :: X').length 1 ((nI (x :: X')).map I) (roomyB (by omega) (by omega)) (by omega) (by rw [List.length_map,nI_len,Nat.mul_one])
       have w1:=wholeN ((x :: X') ++ [(PL h s0)[i]])
       have t1:=takeN ((x :: X') ++ [(PL h s0)[i]])
       have hla:((x :: X') ++ [(PL h s0)[i]]).length = (x :: X').length + 1:=by simp
       rw [hla] at w1 t1
       rw [z0,bb_false,hlx]
       simp only [sl_cs,takeN',bb_false,Nat.add_zero,Nat.zero_add,r1,bb_true,g1,snocN]
       rw [Nat.zero_add] at w1
       rw [w1,bb_true,t1]
       have sR:Sl.v 1 (Sl.mk ((x :: X').length + 1) 0 ((nI ((x :: X') ++ [(PL h s0)[i]])).map I)) = Sl.v 1 (sl 0 (nI ((x :: X') ++ [(PL h s0)[i]]))):=by
        unfold sl;rw [nI_len,hla]
       rw [sR,e1]
       simp only [oo_some,vTup_mk,ll_cons',ll_nil',toSl_mk]
     rw [hcall]
     refine skip o e2 e3 (fun ⟨s,g1,g2,g3,g5⟩=>e4 ⟨s,g1,fun a ha hp=>?_,g3⟩)
     by_cases hax:a < X.length
     ·rw [List.getElem_append_left hax];exact g2 a hax hp
     ·have : a = X.length := by simp at ha; omega
      subst this
      rw [List.getElem_append_right (Nat.le_refl _)]
      simpa using g5
   ·have : ieq h[(PL h s0)[i]] w[(PL h s0)[X.length]] = false := by simp [ieq_eq, c1]
    rw [this,bb_false]
    unfold m10700_4
    rw [bb_false]
    refine skip b hb (fun g=>g) (fun ⟨s,g1,g2,g3,g5⟩=>?_)
    exfalso
    have:=(g1.1 _ q1 q2).2.2
    rw [g5,fn_get p1,fn_get hpw] at this
    exact c1 this
  ·have : i = (PL h s0).length := by omega
   subst this
   rw [sl_n,nI_len,lt_false hlt,bb_false]
   refine ⟨b,rfl,hb,fun g=>g,fun ⟨s,_,_,_,j,hj,_,g4,_⟩=>?_⟩
   omega
include hG hP0
theorem di_all:∀ (d n:Nat),Di h w s0 G (n + d + 4) d:=by
 intro d
 induction d with
 | zero =>
  intro n f1 f2 fX fP k X b hd hX hb
  obtain ⟨o,e,r⟩:=leaf h w s0 G hN hw hG n f1 f2 fX fP k X b (by have:=hX.1;omega) hX hb hP0
  exact ⟨o,Eq.trans (b:=m10700_ (puN (n + 3)) 1000000 k (sl f1 h) (sl f2 w) (sl fP (nI (PL h s0))) (sl fX (nI X)) b) (by kernel_rfl) e,r⟩
 | succ d ih =>
  intro n f1 f2 fX fP k X b hd hX hb
  have e0:puN (n + (d + 1) + 4) 10700 [tr f1 f2 k h w,S fP (nI (PL h s0)),S fX (nI X),Sl.v 1 b] = m10700_ (puN (n + (d + 1) + 3)) 1000000 k (sl f1 h) (sl f2 w) (sl fP (nI (PL h s0))) (sl fX (nI X)) b:=by kernel_rfl
  rw [e0]
  by_cases hl:X.length = (PL h s0).length
  ·exact leaf h w s0 G hN hw hG (n + (d + 1)) f1 f2 fX fP k X b hl hX hb hP0
  ·have hl : X.length < (PL h s0).length := by have := hX.1; omega
   unfold m10700_
   have e1:ieq (Int.ofNat (sl fX (nI X)).n) (Int.ofNat (sl fP (nI (PL h s0))).n) = false:=by
    rw [ieq_eq];simp only [sl_n,nI_len];simp;omega
   rw [e1,bb_false]
   have hDi:=ih n
   rw [show n + d + 4 = n + d + 2 + 2 by omega] at hDi
   obtain ⟨o,q1,q2,q3,q4⟩:=l10700 h w s0 G hN hw (n + d + 2) d f1 f2 fX fP k X (by omega) hl hX hDi 1000000 0 b (by have:=PL10 h s0 hN;omega) (by omega) hb
   refine ⟨o,?_,q2,q3,fun ⟨s,g1,g2,g3⟩=>?_⟩
   ·rw [show n + (d + 1) + 3 = n + d + 2 + 2 by omega];exact q1
   ·obtain ⟨r1, r2⟩ := PLget h s0 hl
    obtain ⟨t1,t2,t3⟩:=g1.1 _ r1 r2
    obtain ⟨j,hj,hje⟩:=List.getElem_of_mem (show s (PL h s0)[X.length] ∈ PL h s0 from mem_els.2 ⟨t1,t2⟩)
    exact q4 ⟨s,g1,g2,g3,j,hj,hl,Nat.zero_le _,hje.symm⟩
end

theorem bv_bit : ∀ (h w : List Int) (i : Nat) (hi : i < h.length) (hj : i < w.length), (bv h w).testBit i = !(h[i] == w[i])
 | [],_,i,hi,_=>by simp at hi
 | _ :: _,[],i,_,hj=>by simp at hj
 | x :: h, y :: w, 0, _, _ => by
  rw [Nat.testBit_zero]
  simp only [bv,List.getElem_cons_zero]
  by_cases e:x = y <;> simp [e] <;> omega
 | x :: h, y :: w, i + 1, hi, hj => by
  rw [Nat.testBit_succ]
  simp only [bv,List.getElem_cons_succ]
  rw [show ((if x = y then 0 else 1) + 2 * bv h w) / 2 = bv h w by split <;> omega]
  exact bv_bit h w i (by simpa using hi) (by simpa using hj)
theorem count_cn (l : List Int) (x : Int) : ∀ (m : Nat), m ≤ l.length → (l.take m).count x = cn m (fun _ => true) (fn l) x
 | 0,_=>by simp [cn]
 | m + 1, h => by
  rw [count_take (by omega),cn_succ,count_cn l x m (by omega),fn_get (by omega)]
  simp
theorem wrong_ev {K:Nat} {h w:List Int} (hw:w.length = h.length) (hk:inK K h) (hkw:inK K w) (he:evn K h w):Ev h.length (fn h) (fn w) (tb (bv h w)):=by
 intro x
 have split:∀ f:Nat→Int,cn h.length (fun _=>true) f x = cn h.length (tb (bv h w)) f x + cn h.length (fun i=>!(tb (bv h w) i)) f x:=fun f=>
  cn_split f x (fun i _=>by cases tb (bv h w) i <;> rfl) (fun i _ g=>by cases hb:tb (bv h w) i <;> simp [hb] at g)
 have same:cn h.length (fun i=>!(tb (bv h w) i)) (fn h) x = cn h.length (fun i=>!(tb (bv h w) i)) (fn w) x:=by
  unfold cn
  apply List.countP_congr
  intro i hi
  have hi:i < h.length:=by simpa using hi
  have hj:i < w.length:=by omega
  have:=bv_bit h w i hi hj
  rw [fn_get hi,fn_get hj]
  show (!(bv h w).testBit i && _) = true↔(!(bv h w).testBit i && _) = true
  rw [this]
  by_cases e:h[i] = w[i] <;> simp [e]
 have all:cn h.length (fun _=>true) (fn h) x = cn h.length (fun _=>true) (fn w) x:=by
  rw [←count_cn h x h.length (Nat.le_refl _),←count_cn w x h.length (by omega),List.take_length,←hw,List.take_length]
  by_cases hx:0≤x∧x < K
  ·obtain ⟨j, rfl⟩ : ∃ j : Nat, x = j := ⟨x.toNat, by omega⟩
   exact he j (by omega)
  ·rw [List.count_eq_zero.2 (fun hm=>hx (hk _ hm)),List.count_eq_zero.2 (fun hm=>hx (hkw _ hm))]
 have s1:=split (fn h)
 have s2:=split (fn w)
 omega
noncomputable def GR (h w:List Int):List (List Nat):=gr h.length (fn h) (fn w) h.length (tb (bv h w))
structure Ok (k:Int) (h w:List Int):Prop where
 n10:h.length≤10
 n1:1≤h.length
 len:w.length = h.length
 kh:kin h
 kw:kin w
 k1:1≤k∧k≤5
 kk:inK k h∧inK k w
 ev:evn k.toNat h w
 dv:Dv h.length (fn h) (fn w) (tb (bv h w)) (GR h w)
 ln:(GR h w).length = M h.length (fn h) (fn w) (tb (bv h w))
 fst:∀ L,Dv h.length (fn h) (fn w) (tb (bv h w)) L→L = GR h w∨L.length < M h.length (fn h) (fn w) (tb (bv h w))∨(L.length = M h.length (fn h) (fn w) (tb (bv h w))∧bef (GR h w) L)
theorem card_le (N:Nat) (S:PS):card N S≤N:=by unfold card;exact Nat.le_trans List.countP_le_length (by simp)
theorem ok_of {k:Int} {h w:List Int} (hc:chk k h w = 0):Ok k h w:=by
 unfold chk at hc
 by_cases c1:1≤k∧k≤5
 ·rw [ifp_t c1] at hc
  by_cases c2:h.length = 0
  ·rw [ifp_t c2] at hc;cases hc
  ·rw [ifp_f c2] at hc
   by_cases c3:10 < h.length
   ·rw [ifp_t c3] at hc;cases hc
   ·rw [ifp_f c3] at hc
    by_cases c4:w.length = h.length
    ·rw [ifp_t c4] at hc
     by_cases c5:inK k h∧inK k w
     ·rw [ifp_t c5] at hc
      by_cases c6:evn k.toNat h w
      ·have hK : ((k.toNat : Nat) : Int) = k := by omega
       have k1:inK (k.toNat:Nat) h:=by rw [hK];exact c5.1
       have k2:inK (k.toNat:Nat) w:=by rw [hK];exact c5.2
       have he:=wrong_ev c4 k1 k2 c6
       obtain ⟨g1,g2,g3⟩:=gr_ok h.length (tb (bv h w)) (card_le _ _) he
       exact ⟨by omega,by omega,c4,fun x hx=>⟨(c5.1 x hx).1,by have:=(c5.1 x hx).2;omega⟩,fun x hx=>⟨(c5.2 x hx).1,by have:=(c5.2 x hx).2;omega⟩,c1,c5,c6,g1,g2,g3⟩
      ·rw [ifp_f c6] at hc;cases hc
     ·rw [ifp_f c5] at hc;cases hc
    ·rw [ifp_f c4] at hc;cases hc
 ·rw [ifp_f c1] at hc;cases hc
theorem wr_PL {h w:List Int} (hN:h.length≤10):wr h w 0 = nI (PL h (bv h w)):=by
 rw [←bl_bv 10 0 h w hN,bl_eL _ (Nat.lt_of_lt_of_le (bv_lt h w) (p2le hN)),eL_m hN (bv_lt h w)];rfl
theorem p50 (n f1 f2:Nat) (k:Int) (h w:List Int) (ho:Ok k h w):puN (n + 15) 50 [tr f1 f2 k h w] = some (Sl.v 1 (LL 0 (GR h w))):=by
 refine Eq.trans (b:=m50_ (puN (n + 14)) 1000000 k (sl f1 h) (sl f2 w)) (by kernel_rfl) ?_
 unfold m50_
 have e1:=p56 (n + 13) f1 f2 k h w ho.n10 ho.len
 rw [wr_PL ho.n10] at e1
 by_cases hP0:PL h (bv h w) = []
 ·rw [hP0] at e1
  have hE:GR h w = []:=by
   have h1:=ho.ln
   have h2:card h.length (tb (bv h w)) = 0:=by rw [←els_len];rw [show els h.length (tb (bv h w)) = [] from hP0];rfl
   rw [M_zero h2] at h1
   exact List.length_eq_zero_iff.1 h1
  unfold tr S at e1
  rw [e1,oo_some,toSl_mk,oo_some,hE]
  have p:=p73 (n + 10) 0 2 [] [] (fun i=>i) (by simp) (by simp) rfl (by simp) (by simp)
  have e2:puN (n + 14) 10700 [.agg ⟨[.int .i64 k,Sl.v 1 (sl f1 h),Sl.v 1 (sl f2 w)]⟩,Sl.v 1 (sl 0 (nI [])),Sl.v 1 (Sl.mk 0 2 []),Sl.v 1 (Sl.mk 0 2 [])] = some (.tuple ⟨[Sl.v 1 (LL 0 [])]⟩):=by
   refine Eq.trans (b:=m10700_ (puN (n + 13)) 1000000 k (sl f1 h) (sl f2 w) (sl 0 (nI [])) (Sl.mk 0 2 []) (Sl.mk 0 2 [])) (by kernel_rfl) ?_
   unfold m10700_
   have p':puN (n + 13) 73 [Sl.v 1 (sl 0 (nI [])),Sl.v 1 (Sl.mk 0 2 [])] = some (Sl.v 1 (LL 0 [])):=p
   rw [show ieq (Int.ofNat (Sl.mk 0 2 []).n) (Int.ofNat (sl 0 (nI [])).n) = true from rfl,bb_true,p']
   rfl
  rw [e2]
  simp only [oo_some,vTup_mk,ll_cons',ll_nil',toSl_mk]
 ·have hF : First h w (bv h w) (GR h w) := by
   refine ⟨fun e=>hP0 ?_,ho.ln,ho.fst⟩
   have:=ho.dv
   rw [e] at this
   apply List.eq_nil_iff_forall_not_mem.2
   intro x hx
   obtain ⟨x1,x2⟩:=mem_els.1 hx
   rw [this x x1] at x2;cases x2
  obtain ⟨o,q1,_,_,q4⟩:=di_all h w (bv h w) (GR h w) ho.n10 ho.len hF hP0 10 n f1 f2 2 0 k [] nilB (by have:=PL10 h (bv h w) ho.n10;omega) ⟨by simp,by simp,by simp,by simp⟩ (.inl rfl)
  obtain ⟨s,v1,v2⟩:=div_way ho.dv (show h.length < 11 by have:=ho.n10;omega)
  have:=q4 ⟨s,v1,fun i hi=>by simp at hi,v2⟩
  subst this
  unfold tr S at e1 q1
  rw [e1,oo_some,toSl_mk,oo_some]
  have q1':puN (n + 14) 10700 [.agg ⟨[.int .i64 k,Sl.v 1 (sl f1 h),Sl.v 1 (sl f2 w)]⟩,Sl.v 1 (sl 0 (nI (PL h (bv h w)))),Sl.v 1 (Sl.mk 0 2 []),Sl.v 1 (Sl.mk 0 2 [])] = some (.tuple ⟨[Sl.v 1 (LL 0 (GR h w))]⟩):=q1
  rw [q1']
  simp only [oo_some,vTup_mk,ll_cons',ll_nil',toSl_mk]
theorem p45 (n f1 f2:Nat) (k:Int) (h w:List Int) (ho:Ok k h w):puN (n + 16) 45 [tr f1 f2 k h w] = some (I (FW h w)):=by
 refine Eq.trans (b:=m45_ (puN (n + 15)) 1000000 k (sl f1 h) (sl f2 w)) (by kernel_rfl) ?_
 unfold m45_
 have e1:=p56 (n + 14) f1 f2 k h w ho.n10 ho.len
 rw [wr_PL ho.n10] at e1
 have e2:=p50 n f1 f2 k h w ho
 unfold tr S at e1 e2
 rw [e1,oo_some,toSl_mk,oo_some,e2,oo_some,toSl_mk,oo_some]
 have hM:=M_lt h.length (fn h) (fn w) (tb (bv h w))
 have h10:=ho.n10
 have hcd:=card_le h.length (tb (bv h w))
 have:wrapF .i64 (Int.sub (Int.ofNat (sl 0 (nI (PL h (bv h w)))).n) (Int.ofNat (LL 0 (GR h w)).n)) = FW h w:=by
  rw [sl_n,nI_len,show (PL h (bv h w)).length = card h.length (tb (bv h w)) from els_len _,show (LL 0 (GR h w)).n = (GR h w).length from rfl,ho.ln]
  unfold FW TM
  exact wrapI _ (by show _≤((card h.length (tb (bv h w)):Nat):Int) - ((M h.length (fn h) (fn w) (tb (bv h w)):Nat):Int);omega) (by show ((card h.length (tb (bv h w)):Nat):Int) - ((M h.length (fn h) (fn w) (tb (bv h w)):Nat):Int)≤_;omega)
 rw [this]
end Go.MdFM
