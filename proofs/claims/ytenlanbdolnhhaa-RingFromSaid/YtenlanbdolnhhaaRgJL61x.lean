/- Made from wip. -/
import Derived.Test.YtenlanbdolnhhaaRgJLU6x
import Derived.KernelRfl

set_option maxRecDepth 100000
set_option maxHeartbeats 4000000
namespace Go.RgP
open Go Go.Sp Go.RgJM
noncomputable def RW (l:List (List Nat)):List Value:=l.map fun x=>Sl.v 1 ⟨x.length,0,vL x⟩
theorem RW_len (l:List (List Nat)):len (RW l)=l.length:=by rw[len_eq];simp[RW]
theorem RW_app (l m:List (List Nat)):RW (l++m)=RW l++RW m:=by simp[RW]
theorem RW_closed (l:List (List Nat)):allL closed1 (RW l)=true:=by
 rw[allL_eq,List.all_eq_true]
 intro v hv
 obtain⟨x,_,rfl⟩:=List.mem_map.1 hv
 rfl
theorem RW_get {l:List (List Nat)} {i:Nat} (h:i < l.length):nthL (RW l) (0+i*1)=some (Sl.v 1 ⟨l[i].length,0,vL l[i]⟩):=by
 rw[nthL_eq,Nat.zero_add,Nat.mul_one];simp[RW,h]
theorem setAt {α:Type} (v:α):∀ (xs:List α) (i:Nat),i < xs.length→setL [v] i xs=xs.set i v:=setL_one v
theorem RW_set {l:List (List Nat)} {i:Nat} (x:List Nat) (h:i < l.length):setL ([(Sl.v 1 ⟨x.length,0,vL x⟩)]:List Value) (0+i*1) (RW l)=RW (l.set i x):=by
 rw[Nat.zero_add,Nat.mul_one,setAt _ _ _ (by simpa [RW] using h)];simp[RW,List.map_set]
theorem wrapP (j:Nat) (h:j < 1000000):wrapF .i64 (Int.sub (Int.ofNat (j+1)) 1)=Int.ofNat j:=by
 have e:Int.sub (Int.ofNat (j+1)) (1:Int)=Int.ofNat j:=by show ((j+1:Nat):Int) - 1=((j:Nat):Int);omega
 rw[e];exact wrapI _ (by show _≤((j:Nat):Int);omega) (by show ((j:Nat):Int)≤_;omega)
theorem fitR {i n:Nat} (h:i < n):an (Nat.ble ((0+i*1)+1) n) true=true:=by
 rw[an_eq,ble_eq,decide_eq_true (by omega)];rfl
theorem bltA {i n:Nat} (h:i < n):an (Nat.blt i n) true=true:=by rw[an_eq,blt_eq,decide_eq_true h];rfl
theorem nilL_no {α:Type} {l:List α} (h:l≠[]):nilL l=false:=by
 cases l with
 | nil=>exact absurd rfl h
 | cons a l=>rfl
def sinkL:Nat→List (List Nat)→List (List Nat)
 | 0,l=>l
 | j+1,l=>if lexB (l.getD (j+1) []) (l.getD j []) then sinkL j ((l.set (j+1) (l.getD j [])).set j (l.getD (j+1) [])) else l
def sortF:Nat→Nat→List (List Nat)→List (List Nat)
 | 0,_,l=>l
 | d+1,i,l=>sortF d (i+1) (sinkL i l)
def Small (l:List (List Nat)):Prop:=∀ x∈l,x.length < 900000
theorem Small.set {l:List (List Nat)} (h:Small l) (i:Nat) {x:List Nat} (hx:x.length < 900000):Small (l.set i x):=fun y hy=>by
 rcases List.mem_or_eq_of_mem_set hy with h2 | rfl
 ·exact h y h2
 ·exact hx
theorem Small.at {l:List (List Nat)} (h:Small l) {i:Nat} (hi:i < l.length):(l[i]).length < 900000:=h _ (List.getElem_mem hi)
theorem sink_len:∀ (j:Nat) (l:List (List Nat)),(sinkL j l).length=l.length
 | 0,_=>rfl
 | j + 1, l => by
  unfold sinkL
  split
  ·rw[sink_len j];simp
  ·rfl
theorem sink_small:∀ (j:Nat) {l:List (List Nat)},j < l.length→Small l→Small (sinkL j l)
 | 0,_,_,h=>h
 | j + 1, l, hj, h => by
  unfold sinkL
  have e1:l.getD (j+1) []=l[j+1]:=by simp[List.getD_eq_getElem?_getD,hj]
  have e2:l.getD j []=l[j]:=by simp[List.getD_eq_getElem?_getD,show j < l.length by omega]
  split
  ·refine sink_small j (by simp;omega) ((h.set _ ?_).set _ ?_)
   ·rw[e2];exact h.at _
   ·rw[e1];exact h.at _
  ·exact h
abbrev IhS:=Nat→Nat→Int→Int→Int→List Value→Option Value
theorem sink_loop (k M:Nat) (ih0:IhS) {c i n:Nat} (hi:i < 999999):∀ (j w:Nat) {l:List (List Nat)},l.length=n→j < n→n < 900000→Small l→j < w →
 l10990_2 (puN (k+3)) M ih0 w n c 0 (.ofNat n) (.ofNat i) (.ofNat j) (RW l)=ih0 n c 0 (.ofNat n) (.ofNat (i+1)) (RW (sinkL j l))
 | _,0,_,_,_,_,_,h=>by omega
 | 0, w + 1, l, hl, hj, hn, he, hw => by
  show b10990_2 (puN (k+3)) M ih0 (l10990_2 (puN (k+3)) M ih0 w) n c 0 (.ofNat n) (.ofNat i) (.ofNat 0) (RW l)=_
  unfold b10990_2 m10990_3 m10990_1
  simp only[show ilt 0 (Int.ofNat 0)=false from rfl,bb_false,RW_closed,bb_true,wrapS i (show i < 1000000 by omega),sinkL]
 | j + 1, w + 1, l, hl, hj, hn, he, hw => by
  have h1:j+1 < l.length:=by omega
  have h0:j < l.length:=by omega
  have e1:l.getD (j+1) []=l[j+1]:=by simp[List.getD_eq_getElem?_getD,h1]
  have e2:l.getD j []=l[j]:=by simp[List.getD_eq_getElem?_getD,h0]
  have hc:=pu_compare k 0 0 (a:=l[j+1]) (b:=l[j]) (he.at h1)
  have hc:puN (k+3) 52 [Sl.v 1 ⟨l[j+1].length,0,vL l[j+1]⟩,Sl.v 1 ⟨l[j].length,0,vL l[j]⟩]=some (.int .i64 (cmpN l[j+1] l[j])):=hc
  show b10990_2 (puN (k+3)) M ih0 (l10990_2 (puN (k+3)) M ih0 w) n c 0 (.ofNat n) (.ofNat i) (.ofNat (j+1)) (RW l)=_
  unfold b10990_2 m10990_3 m10990_1
  simp only[show ilt 0 (Int.ofNat (j+1))=true from rfl,bb_true,toN_mk,oo_some,bltA hj,bltA (show j < n by omega),RW_get h1,RW_get h0,toSl_mk,wrapP j (show j < 1000000 by omega),hc,toI_mk,RW_closed,cmp_neg,sinkL,e1,e2,wrapS i (show i < 1000000 by omega),RW_set l[j] h1,RW_len,List.length_set,RW_set (l:=l.set (j+1) l[j]) l[j+1] (show j < (l.set (j+1) l[j]).length by simp;omega),fitR (show j+1 < l.length from h1),fitR (show j < l.length from h0)]
  cases h:lexB l[j+1] l[j] with
  | true =>
   rw[bb_true,if_pos rfl]
   exact sink_loop k M ih0 hi j w (by simp[hl]) (by omega) hn ((he.set _ (he.at h0)).set _ (he.at h1)) (by omega)
  | false=>rw[bb_false];rfl
theorem sort_loop (k M:Nat) {c n:Nat} (hM:n < M):∀ (d w i:Nat) {l:List (List Nat)},l.length=n→i+d=n→1≤i→n < 900000→Small l→d < w →
 l10990_0 (puN (k+3)) M w n c 0 (.ofNat n) (.ofNat i) (RW l)=some (.tuple ⟨[.tuple ⟨[]⟩,.agg ⟨RW (sortF d i l)⟩]⟩)
 | _,0,_,_,_,_,_,_,_,h=>by omega
 | 0, w + 1, i, l, hl, hd, h1, hn, he, hw => by
  show b10990_0 (puN (k+3)) M (l10990_0 (puN (k+3)) M w) n c 0 (.ofNat n) (.ofNat i) (RW l)=_
  unfold b10990_0
  rw[RW_closed,bb_true,ilt_nat,show Nat.blt i n=false from by rw[blt_eq];simp;omega,bb_false];rfl
 | d + 1, w + 1, i, l, hl, hd, h1, hn, he, hw => by
  show b10990_0 (puN (k+3)) M (l10990_0 (puN (k+3)) M w) n c 0 (.ofNat n) (.ofNat i) (RW l)=_
  unfold b10990_0
  rw[RW_closed,bb_true,ilt_nat,show Nat.blt i n=true from by rw[blt_eq];simp;omega,bb_true,sink_loop k M _ (by omega) i M hl (by omega) hn he (by omega)]
  exact sort_loop k M hM d w (i+1) (by rw[sink_len,hl]) (by omega) (by omega) hn (sink_small i (by omega) he) (by omega)
def sortL (l:List (List Nat)):List (List Nat):=sortF (l.length - 1) 1 l
theorem q10990 (k:Nat) (args:List Value):puN (k+1) 10990 args=m10990 (puN k) L args:=by kernel_rfl
theorem q10940 (k:Nat) (args:List Value):puN (k+1) 10940 args=m10940 (puN k) L args:=by kernel_rfl
theorem q10600 (k:Nat) (args:List Value):puN (k+1) 10600 args=m10600 (puN k) L args:=by kernel_rfl
noncomputable def scV (n c:Nat):Value:=.slice (some ⟨0,0,some 1⟩) n c
theorem pu_insert (k:Nat) {c:Nat} {l:List (List Nat)} (hl:1≤l.length) (hn:l.length < 900000) (he:Small l) :
 puN (k+4) 10990 [scV l.length c,IV 0,IV (.ofNat l.length),.func (.func 52) ⟨[]⟩ ⟨[]⟩,.agg ⟨RW l⟩]=some (.tuple ⟨[.tuple ⟨[]⟩,.agg ⟨RW (sortL l)⟩]⟩):=by
 rw[q10990]
 show m10990_ (puN (k+3)) L l.length c 0 (.ofNat l.length) (RW l)=_
 unfold m10990_
 rw[RW_closed,bb_true]
 exact sort_loop k L (by show _ < 1000000;omega) (l.length - 1) L 1 rfl (by omega) (by omega) hn he (by show _ < 1000000;omega)
theorem lexB_asym {a b:List Nat} (h:lexB a b=true):lexB b a=false:=by
 cases h2:lexB b a with
 | false=>rfl
 | true=>have:=lexB_trans h h2;rw[lexB_irr] at this;cases this
def leL (a b:List Nat):Prop:=lexB b a=false
theorem leL_trans {a b c:List Nat} (h1:leL a b) (h2:leL b c):leL a c:=by
 unfold leL at *
 cases h:lexB c a with
 | false=>rfl
 | true =>
  cases hab:lexB a b with
  | true=>have:=lexB_trans h hab;rw[this] at h2;cases h2
  | false =>
   have:=lexB_tot hab h1
   rw[this] at h;rw[h] at h2;cases h2
def SortedL (l:List (List Nat)):Prop:=l.Pairwise leL
theorem sink_spec:∀ (p:List (List Nat)) (x:List Nat) (t:List (List Nat)),SortedL p→∃ q,sinkL p.length (p++x::t)=q++t∧q.Perm (x::p)∧SortedL q:=by
 intro p
 induction h:p.length generalizing p with
 | zero =>
  intro x t _
  obtain rfl:=List.eq_nil_of_length_eq_zero h
  exact⟨[x],rfl,List.Perm.refl _,List.pairwise_singleton _ _⟩
 | succ j ih =>
  intro x t hs
  obtain⟨p',y,rfl⟩:∃ p' y,p=p'++[y]:=⟨p.dropLast,p.getLast (by intro e;subst e;simp at h),(List.dropLast_concat_getLast _).symm⟩
  have hj:p'.length=j:=by simpa using h
  subst hj
  have hs':SortedL p':=(List.pairwise_append.1 hs).1
  have hle:∀ z∈p',leL z y:=fun z hz=>(List.pairwise_append.1 hs).2.2 z hz y List.mem_cons_self
  have e1:(p'++[y]++x::t).getD (p'.length+1) []=x:=by simp[List.getD_eq_getElem?_getD]
  have e2:(p'++[y]++x::t).getD p'.length []=y:=by simp[List.getD_eq_getElem?_getD]
  unfold sinkL
  rw[e1,e2]
  by_cases hlt:lexB x y=true
  ·rw[if_pos hlt]
   have e3:((p'++[y]++x::t).set (p'.length+1) y).set p'.length x=p'++x::(y::t):=by
    rw[List.append_assoc]
    simp
   rw[e3]
   obtain⟨q,h1,h2,h3⟩:=ih p' rfl x (y::t) hs'
   refine⟨q++[y],by rw[h1];simp,?_,?_⟩
   ·exact(h2.append_right [y]).trans (by simp)
   ·refine List.pairwise_append.2 ⟨h3,List.pairwise_singleton _ _,fun a ha b hb=>?_⟩
    obtain rfl:=List.mem_singleton.1 hb
    rcases List.mem_cons.1 (h2.mem_iff.1 ha) with rfl | ha
    ·exact lexB_asym hlt
    ·exact hle a ha
  ·rw[if_neg hlt]
   refine⟨p'++[y]++[x],by simp,List.perm_append_comm (l₁:=p'++[y]) (l₂:=[x]),?_⟩
   refine List.pairwise_append.2 ⟨hs,List.pairwise_singleton _ _,fun a ha b hb=>?_⟩
   obtain rfl:=List.mem_singleton.1 hb
   have hyx:leL y b:=by unfold leL;simpa using hlt
   rcases List.mem_append.1 ha with ha | ha
   ·exact leL_trans (hle a ha) hyx
   ·obtain rfl:=List.mem_singleton.1 ha
    exact hyx
theorem sortF_spec:∀ (d i:Nat) (p t:List (List Nat)),p.length=i→t.length=d→SortedL p→(sortF d i (p++t)).Perm (p++t)∧SortedL (sortF d i (p++t))
 | 0, i, p, t, _, ht, hs => by
  obtain rfl:=List.eq_nil_of_length_eq_zero ht
  rw[List.append_nil]
  exact⟨List.Perm.refl _,hs⟩
 | d + 1, i, p, x :: t, hi, ht, hs => by
  subst hi
  obtain⟨q,h1,h2,h3⟩:=sink_spec p x t hs
  show (sortF d (p.length+1) (sinkL p.length (p++x::t))).Perm _∧SortedL (sortF d (p.length+1) (sinkL p.length (p++x::t)))
  rw[h1]
  have hp:(q++t).Perm (p++x::t):=(h2.append_right t).trans (by simpa using List.perm_middle.symm)
  obtain⟨h4,h5⟩:=sortF_spec d (p.length+1) q t (by rw[h2.length_eq];rfl) (by simpa using ht) h3
  exact⟨h4.trans hp,h5⟩
theorem sortL_spec {l:List (List Nat)}:(sortL l).Perm l∧SortedL (sortL l):=by
 cases l with
 | nil=>exact⟨List.Perm.refl _,List.Pairwise.nil⟩
 | cons x t=>exact sortF_spec t.length 1 [x] t rfl rfl (List.pairwise_singleton _ _)
theorem nil_ok {c:Nat} {l:List (List Nat)} (h:1≤l.length):orr (Nat.ble 2 c) (nilL (RW l))=Nat.ble 2 c:=by
 rw[nilL_no (by intro e;have:=congrArg List.length e;simp[RW] at this;rw[this] at h;simp at h)]
 cases Nat.ble 2 c <;> rfl
theorem pu_pdq (k:Nat) {c:Nat} (z:Int) {l:List (List Nat)} (hl:1≤l.length) (hn:l.length≤12) (hc:2≤c) (he:Small l) :
 puN (k+5) 10940 [scV l.length c,IV 0,IV (.ofNat l.length),IV z,.func (.func 52) ⟨[]⟩ ⟨[]⟩,.agg ⟨RW l⟩]=some (.tuple ⟨[.tuple ⟨[]⟩,.agg ⟨RW (sortL l)⟩]⟩):=by
 rw[q10940]
 show bb (allL closed1 (RW l)) (b10940_0 (puN (k+4)) L (l10940_0 (puN (k+4)) L 999999) l.length c 0 (.ofNat l.length) z true true (RW l)) none=_
 rw[RW_closed,bb_true]
 have h12:nt (ilt (12:Int) (wrapF .i64 (Int.sub (Int.ofNat l.length) 0)))=true:=by
  rw[show Int.sub (Int.ofNat l.length) 0=(l.length:Int) from by show (l.length:Int) - 0=_;omega,wrapI _ (by omega) (by omega),ilt_eq,decide_eq_false (by omega)];rfl
 have hi:=pu_insert k (c:=c) hl (by omega) he
 have hi':puN (k+4) 10990 [.slice (some ⟨0,0,some 1⟩) l.length c,.int .i64 (0:Int),.int .i64 (Int.ofNat l.length),.func (.func 52) ⟨[]⟩ ⟨[]⟩,.agg ⟨RW l⟩]=_:=hi
 unfold b10940_0
 rw[RW_closed,bb_true,h12,bb_true,nil_ok (c:=c) hl,Nat.ble_eq_true_of_le hc,bb_true,bb_true,hi',oo_some]
 show bb (isNoV (.tuple ⟨[]⟩)) (bb (allL closed1 (RW (sortL l))) (bb (allL closed1 (RW (sortL l))) _ none) none) none=_
 rw[RW_closed];rfl
noncomputable def l13:List Nat:=[0,1,2,3,4,5,6,7,8,9,10,11,12]
noncomputable def lenT (n:Nat):Nat:=bb (Nat.beq n 0) 0 (bb (Nat.ble n 1) 1 (bb (Nat.ble n 3) 2 (bb (Nat.ble n 7) 3 4)))
theorem len_runs (k:Nat):mapL (fun n=>puN (k+4) 95 [.int .u64 (wrapF .u64 (.ofNat n))]) l13=mapL (fun n=>some (IV (.ofNat (lenT n)))) l13:=by kernel_rfl
theorem l13_mem {n:Nat} (h:n≤12):n∈l13:=by
 show n∈List.range 13
 exact List.mem_range.2 (by omega)
theorem mapL_at {α β:Type} {f g:α→β}:∀ {l:List α},mapL f l=mapL g l→∀ x∈l,f x=g x
 | [],_,_,h=>by cases h
 | a :: l, h, x, hx => by
  injection (show f a::mapL f l=g a::mapL g l from h) with h1 h2
  cases hx with
  | head=>exact h1
  | tail _ hx=>exact mapL_at h2 x hx
theorem pu_sort (k:Nat) {c:Nat} {l:List (List Nat)} (hl:1≤l.length) (hn:l.length≤12) (hc:2≤c) (he:Small l) :
 puN (k+6) 10600 [scV l.length c,.func (.func 52) ⟨[]⟩ ⟨[]⟩,.agg ⟨RW l⟩]=some (.tuple ⟨[.tuple ⟨[]⟩,.agg ⟨RW (sortL l)⟩]⟩):=by
 rw[q10600]
 have h1:=mapL_at (len_runs (k+1)) l.length (l13_mem hn)
 have h1':puN (k+5) 95 [.int .u64 (wrapF .u64 (Int.ofNat l.length))]=some (IV (Int.ofNat (lenT l.length))):=h1
 have h2:=pu_pdq k (c:=c) (Int.ofNat (lenT l.length)) hl hn hc he
 have h2':puN (k+5) 10940 [.slice (some ⟨0,0,some 1⟩) l.length c,.int .i64 (0:Int),.int .i64 (Int.ofNat l.length),.int .i64 (Int.ofNat (lenT l.length)),.func (.func 52) ⟨[]⟩ ⟨[]⟩,.agg ⟨RW l⟩]=_:=h2
 show m10600_ (puN (k+5)) L l.length c (RW l)=_
 unfold m10600_
 rw[RW_closed,bb_true,h1',oo_some,show ∀ z,toI .i64 (IV z)=some z from fun _=>rfl,oo_some,nil_ok hl,Nat.ble_eq_true_of_le hc,bb_true,bb_true,h2',oo_some]
 show bb (isNoV (.tuple ⟨[]⟩)) (bb (allL closed1 (RW (sortL l))) (bb (allL closed1 (RW (sortL l))) _ none) none) none=_
 rw[RW_closed];rfl
end Go.RgP
set_option maxRecDepth 100000
set_option maxHeartbeats 4000000
namespace Go.RgP
open Go Go.Sp Go.RgJM
theorem ext_form:∀ (r m p:Nat) (l:List Nat),∀ x∈ext r m p l,∃ t,x=l++t∧t.length=m∧∀ y∈t,p≤y
 | r, 0, p, l, x, hx => by
  rw[ext_zero] at hx
  exact⟨[],by rw[List.mem_singleton.1 hx,List.append_nil],rfl,fun y hy=>by cases hy⟩
 | 0,m+1,p,l,x,hx=>by cases hx
 | r + 1, m + 1, p, l, x, hx => by
  rcases List.mem_append.1 (show x∈ext r m (p+1) (l++[p])++ext r (m+1) (p+1) l from hx) with hx | hx
  ·obtain⟨t,h1,h2,h3⟩:=ext_form r m (p+1) (l++[p]) x hx
   refine⟨p::t,by rw[h1];simp,by simp[h2],fun y hy=>?_⟩
   rcases List.mem_cons.1 hy with rfl | hy
   ·exact Nat.le_refl _
   ·have:=h3 y hy;omega
  ·obtain⟨t,h1,h2,h3⟩:=ext_form r (m+1) (p+1) l x hx
   exact⟨t,h1,h2,fun y hy=>by have:=h3 y hy;omega⟩
theorem ext_mem {n:Nat}:∀ (r m p:Nat) (l t:List Nat),p+r=n→t.length=m→t.Pairwise (· < ·)→(∀ y∈t,p≤y∧y < n)→l++t∈ext r m p l
 | r, 0, p, l, t, _, ht, _, _ => by
  rw[ext_zero,List.eq_nil_of_length_eq_zero ht,List.append_nil];exact List.mem_singleton.2 rfl
 | 0,m+1,p,l,a::t,hr,_,_,hb=>by have:=hb a List.mem_cons_self;omega
 | r + 1, m + 1, p, l, a :: t, hr, ht, hs, hb => by
  show l++a::t∈ext r m (p+1) (l++[p])++ext r (m+1) (p+1) l
  have ha:=hb a List.mem_cons_self
  obtain⟨s1,s2⟩:=List.pairwise_cons.1 hs
  by_cases e:a=p
  ·subst e
   refine List.mem_append_left _ ?_
   have:=ext_mem (n:=n) r m (a+1) (l++[a]) t (by omega) (by simpa using ht) s2 fun y hy=>⟨by have:=s1 y hy;omega,(hb y (List.mem_cons_of_mem _ hy)).2⟩
   rwa [List.append_assoc,List.singleton_append] at this
  ·refine List.mem_append_right _ (ext_mem (n:=n) r (m+1) (p+1) l (a::t) (by omega) ht hs fun y hy=>?_)
   rcases List.mem_cons.1 hy with rfl | hy2
   ·omega
   ·have:=s1 y hy2
    exact⟨by omega,(hb y hy).2⟩
theorem lexB_app:∀ (l a b:List Nat),lexB (l++a) (l++b)=lexB a b
 | [],_,_=>rfl
 | x :: l, a, b => by
  show lexB (x::(l++a)) (x::(l++b))=_
  rw[lexB_cons,show Nat.beq x x=true from Nat.beq_refl x]
  exact lexB_app l a b
def Strict (l:List (List Nat)):Prop:=l.Pairwise fun a b=>lexB a b=true
theorem ext_strict:∀ (r m p:Nat) (l:List Nat),Strict (ext r m p l)
 | r,0,p,l=>by rw[ext_zero];exact List.pairwise_singleton _ _
 | 0,m+1,p,l=>List.Pairwise.nil
 | r + 1, m + 1, p, l => by
  show Strict (ext r m (p+1) (l++[p])++ext r (m+1) (p+1) l)
  refine List.pairwise_append.2 ⟨ext_strict r m (p+1) (l++[p]),ext_strict r (m+1) (p+1) l,fun a ha b hb=>?_⟩
  obtain⟨t,rfl,_,_⟩:=ext_form _ _ _ _ a ha
  obtain⟨u,rfl,hu,hu2⟩:=ext_form _ _ _ _ b hb
  cases u with
  | nil=>simp at hu
  | cons y u =>
   have:=hu2 y List.mem_cons_self
   rw[List.append_assoc,List.singleton_append,lexB_app,lexB_cons,beq_ne (show p≠y by omega)]
   show Nat.blt p y=true
   rw[blt_eq];exact decide_eq_true (by omega)
theorem Strict.filter {l:List (List Nat)} (h:Strict l) (p:List Nat→Bool):Strict (l.filter p):=List.Pairwise.sublist List.filter_sublist h
theorem Strict.nodup {l:List (List Nat)} (h:Strict l):l.Nodup:=h.imp fun {a b} hab e=>by rw[e,lexB_irr] at hab;cases hab
theorem strict_ext:∀ {a b:List (List Nat)},Strict a→Strict b→(∀ x,x∈a↔x∈b)→a=b
 | [],[],_,_,_=>rfl
 | [],y::b,_,_,h=>by have:=(h y).2 List.mem_cons_self;cases this
 | x::a,[],_,_,h=>by have:=(h x).1 List.mem_cons_self;cases this
 | x :: a, y :: b, ha, hb, h => by
  obtain⟨a1,a2⟩:=List.pairwise_cons.1 ha
  obtain⟨b1,b2⟩:=List.pairwise_cons.1 hb
  have e:x=y:=by
   rcases List.mem_cons.1 ((h x).1 List.mem_cons_self) with h1 | h1
   ·exact h1
   ·rcases List.mem_cons.1 ((h y).2 List.mem_cons_self) with h2 | h2
    ·exact h2.symm
    ·have:=lexB_asym (a1 y h2)
     rw[b1 x h1] at this;cases this
  subst e
  congr 1
  refine strict_ext a2 b2 fun z=>?_
  constructor
  ·intro hz
   rcases List.mem_cons.1 ((h z).1 (List.mem_cons_of_mem _ hz)) with h1 | h1
   ·have:=a1 z hz;rw[h1,lexB_irr] at this;cases this
   ·exact h1
  ·intro hz
   rcases List.mem_cons.1 ((h z).2 (List.mem_cons_of_mem _ hz)) with h1 | h1
   ·have:=b1 z hz;rw[h1,lexB_irr] at this;cases this
   ·exact h1
theorem sorted_strict {l:List (List Nat)} (hs:SortedL l) (hn:l.Nodup):Strict l:=by
 refine List.Pairwise.imp₂ (fun a b h1 h2=>?_) hs hn
 cases h:lexB a b with
 | true=>rfl
 | false=>exact absurd (lexB_tot h h1) h2
theorem kk_two {a b:Nat} {S:Int} (ha:kk a S=true) (hb:kk b S=true) (hlt:a < b):a=0:=by
 unfold kk at ha hb
 rw[decide_eq_true_eq] at ha hb
 apply Classical.byContradiction
 intro h0
 have h1:(a:Int)*((a:Int) - 1) < (b:Int)*((b:Int) - 1):=by
  have e1:(a:Int)*((a:Int) - 1)≤(a:Int)*((b:Int) - 1):=Int.mul_le_mul_of_nonneg_left (by omega) (by omega)
  have e2:(a:Int)*((b:Int) - 1) < (b:Int)*((b:Int) - 1):=Int.mul_lt_mul_of_pos_right (by omega) (by omega)
  omega
 omega
theorem fromQ_mem {n:Nat} {D:List Nat} {S:Int} {x:List Nat}:∀ (j k:Nat),x∈fromQ n D S j k↔∃ i,k≤i∧i < k+j∧kk i S=true∧x∈ext n i 0 []∧goodF n D x=true
 | 0, k => by
  constructor
  ·intro h;cases h
  ·rintro⟨i,h1,h2,_⟩;omega
 | j + 1, k => by
  show x∈(bif kk k S then (ext n k 0 []).filter (goodF n D) else [])++fromQ n D S j (k+1)↔_
  rw[List.mem_append,fromQ_mem j (k+1)]
  constructor
  ·rintro(h | ⟨i,h1,h2,h3⟩)
   ·cases hk:kk k S with
    | false=>rw[hk] at h;cases h
    | true =>
     rw[hk] at h
     obtain⟨g1,g2⟩:=List.mem_filter.1 (show x∈(ext n k 0 []).filter (goodF n D) from h)
     exact⟨k,Nat.le_refl _,by omega,hk,g1,g2⟩
   ·exact⟨i,by omega,by omega,h3⟩
  ·rintro⟨i,h1,h2,h3,h4,h5⟩
   by_cases e:i=k
   ·subst e
    left
    rw[h3]
    exact List.mem_filter.2 ⟨h4,h5⟩
   ·exact .inr ⟨i,by omega,by omega,h3,h4,h5⟩
theorem fromQ_strict {n:Nat} {D:List Nat} {S:Int}:∀ (j k:Nat),Strict (fromQ n D S j k)
 | 0,_=>List.Pairwise.nil
 | j + 1, k => by
  show Strict ((bif kk k S then (ext n k 0 []).filter (goodF n D) else [])++fromQ n D S j (k+1))
  refine List.pairwise_append.2 ⟨?_,fromQ_strict j (k+1),fun a ha b hb=>?_⟩
  ·cases kk k S with
   | false=>exact List.Pairwise.nil
   | true=>exact(ext_strict n k 0 []).filter _
  ·cases hk:kk k S with
   | false=>rw[hk] at ha;cases ha
   | true =>
    rw[hk] at ha
    obtain⟨g1,_⟩:=List.mem_filter.1 (show a∈(ext n k 0 []).filter (goodF n D) from ha)
    obtain⟨i,h1,h2,h3,h4,_⟩:=(fromQ_mem j (k+1)).1 hb
    obtain rfl:=kk_two hk h3 (by omega)
    rw[ext_zero] at g1
    rw[List.mem_singleton.1 g1]
    obtain⟨t,e,ht,_⟩:=ext_form _ _ _ _ b h4
    rw[List.nil_append] at e
    subst e
    cases b with
    | nil=>simp at ht;omega
    | cons y t=>rfl
theorem up_len {n:Nat} {l:List Nat} (hu:l.Pairwise (· < ·)) (hl:∀ x∈l,x < n):l.length≤n:=by
 have h:∀ (l:List Nat) (p:Nat),l.Pairwise (· < ·)→(∀ x∈l,p≤x∧x < n)→p≤n→l.length+p≤n:=by
  intro l
  induction l with
  | nil=>intro p _ _ hp;simpa using hp
  | cons a t ih =>
   intro p hu hl hp
   obtain⟨h1,h2⟩:=List.pairwise_cons.1 hu
   have ha:=hl a List.mem_cons_self
   have:=ih (a+1) h2 (fun x hx=>⟨h1 x hx,(hl x (List.mem_cons_of_mem _ hx)).2⟩) (by omega)
   show t.length+1+p≤n
   omega
 have:=h l 0 hu (fun x hx=>⟨Nat.zero_le _,hl x hx⟩) (Nat.zero_le _)
 omega
theorem sum_ofNat:∀ D:List Nat,(D.map Int.ofNat).sum=((D.sum:Nat):Int)
 | []=>rfl
 | a :: D => by
  rw[List.map_cons,List.sum_cons,List.sum_cons,sum_ofNat D]
  show (a:Int)+((D.sum:Nat):Int)=((a+D.sum:Nat):Int)
  omega
theorem kk_len {n:Nat} {x:List Nat} (h:Good n x):kk x.length ((dists n x).map Int.ofNat).sum=true:=by
 rw[sum_ofNat,dists_sum (nodup_of_lt h.up) h.lt]
 unfold kk
 apply decide_eq_true
 cases hx:x.length with
 | zero=>rfl
 | succ k =>
  show ((k+1:Nat):Int)*(((k+1:Nat):Int) - 1)=(((k+1)*(k+1 - 1):Nat):Int)
  rw[show ((k+1:Nat):Int) - 1=(k:Int) by omega,Nat.add_sub_cancel]
  exact(Int.natCast_mul (k+1) k).symm
noncomputable def fromL (n:Nat) (D:List Nat):List (List Nat):=fromQ n D (D.map Int.ofNat).sum (min n 6+1) 0
theorem fromL_mem {n:Nat} {D x:List Nat} (h0:0 < n) (hn:n≤21):x∈fromL n D↔Good n x∧goodF n D x=true:=by
 unfold fromL
 rw[fromQ_mem]
 constructor
 ·rintro⟨i,_,h2,_,h4,h5⟩
  exact⟨(ext_good n i 0 [] (part_nil h0 hn (by omega)) (by omega) x h4).1,h5⟩
 ·rintro⟨hg,h5⟩
  have hl:=up_len hg.up hg.lt
  have hf:=hg.few
  have hD:dists n x=D:=by
   unfold goodF at h5
   rw[Bool.and_eq_true,decide_eq_true_eq,decide_eq_true_eq] at h5
   exact h5.2
  refine⟨x.length,Nat.zero_le _,by omega,?_,?_,h5⟩
  ·rw[←hD];exact kk_len hg
  ·have:=ext_mem (n:=n) n x.length 0 [] x (by omega) rfl hg.up fun y hy=>⟨Nat.zero_le _,hg.lt y hy⟩
   simpa using this
noncomputable def inAll (n:Nat) (D:List Nat) (x:Nat):Bool:=Nat.ble (marksN n x).length 6 && goodF n D (marksN n x)
noncomputable def allL2 (n:Nat) (D:List Nat):List (List Nat):=((List.range (2 ^ n)).filter (inAll n D)).map (marksN n)
theorem all_mem {n:Nat} {D x:List Nat} (h0:0 < n) (hn:n≤21):x∈allL2 n D↔Good n x∧goodF n D x=true:=by
 unfold allL2
 rw[List.mem_map]
 constructor
 ·rintro⟨s,hs,rfl⟩
  obtain⟨h1,h2⟩:=List.mem_filter.1 hs
  have hs:=List.mem_range.1 h1
  unfold inAll at h2
  rw[Bool.and_eq_true] at h2
  exact⟨good_marks h0 hn hs (Nat.le_of_ble_eq_true h2.1),h2.2⟩
 ·rintro⟨hg,h⟩
  have hb:=bitsOf_lt hg.lt
  refine⟨bitsOf x,List.mem_filter.2 ⟨List.mem_range.2 hb,?_⟩,hg.marks⟩
  unfold inAll
  rw[hg.marks,h,Bool.and_true]
  exact Nat.ble_eq_true_of_le hg.few
theorem all_nodup {n:Nat} {D:List Nat} (hn:n≤21):(allL2 n D).Nodup:=by
 unfold allL2
 refine nodup_map_on (nodup_filter List.nodup_range) fun a ha b hb e=>?_
 have h1:=List.mem_range.1 (List.mem_filter.1 ha).1
 have h2:=List.mem_range.1 (List.mem_filter.1 hb).1
 exact marks_inj (n:=n) (by omega) h1 h2 e
theorem sort_all {n:Nat} {D:List Nat} (h0:0 < n) (hn:n≤21):sortL (allL2 n D)=fromL n D:=by
 obtain⟨h1,h2⟩:=sortL_spec (l:=allL2 n D)
 refine strict_ext (sorted_strict h2 (h1.nodup_iff.2 (all_nodup hn))) (fromQ_strict _ _) fun x=>?_
 rw[h1.mem_iff,all_mem h0 hn,fromL_mem h0 hn]
theorem turn_perm {n:Nat} {l:List Nat} (h:Good n l) {b:Nat} (hb:b < n):(marksN n (turnN n (bitsOf l) b)).Perm (l.map fun a=>(a+b) % n):=by
 have hn:=h.le
 have hs:=bitsOf_lt h.lt
 have inj:∀ x∈l,∀ y∈l,(x+b) % n=(y+b) % n→x=y:=fun x hx y hy e=>by
  have h1:=h.lt x hx
  have h2:=h.lt y hy
  rw[mod_add h1 hb,mod_add h2 hb] at e
  split at e <;> split at e <;> omega
 refine(List.perm_ext_iff_of_nodup (nodup_of_lt (marks_sorted (lt32 (n:=n) (by omega) turn_lt))) (nodup_map_on (nodup_of_lt h.up) inj)).2 fun x=>?_
 rw[mem_marks (lt32 (n:=n) (by omega) turn_lt),turn_bit (by omega) hs hb,List.mem_map]
 constructor
 ·rintro⟨hx,h2⟩
  rw[Bool.and_eq_true,bitsOf_bit,decide_eq_true_eq,decide_eq_true_eq] at h2
  refine⟨_,h2.2,?_⟩
  by_cases hb0:b=0
  ·subst hb0
   rw[Nat.add_zero,Nat.sub_zero,Nat.add_mod_right,Nat.mod_mod,Nat.mod_eq_of_lt hx]
  ·exact back_add hx (by omega) hb
 ·rintro⟨a,ha,rfl⟩
  have h1:=h.lt a ha
  refine⟨Nat.mod_lt _ h.pos,?_⟩
  rw[Bool.and_eq_true,bitsOf_bit,decide_eq_true_eq,decide_eq_true_eq]
  refine⟨Nat.mod_lt _ h.pos,?_⟩
  by_cases hb0:b=0
  ·subst hb0
   rw[Nat.add_zero,Nat.sub_zero,Nat.add_mod_right,Nat.mod_mod,Nat.mod_eq_of_lt h1];exact ha
  ·rw[add_back h1 (by omega) hb];exact ha
theorem cnt_mapT {n:Nat} {l:List Nat} (h:Good n l) {b:Nat} (hb:b < n) (d:Nat):cntD n (l.map fun a=>(a+b) % n) d=cntD n l d:=by
 unfold cntD
 rw[List.countP_map]
 apply List.countP_congr
 intro a ha
 have h0:=h.pos
 simp only[Function.comp_apply,decide_eq_true_eq,List.mem_map]
 constructor
 ·rintro⟨c,hc,e⟩
  have h1:c % n=(a+d) % n:=by
   have e2:(c+b) % n=(a+d+b) % n:=by rw[e,Nat.mod_add_mod];congr 1;omega
   have h2:=h.lt c hc
   have h3:(c+b) % n=((a+d) % n+b) % n:=by rw[e2,Nat.mod_add_mod]
   have h4:=Nat.mod_lt (a+d) h0
   rw[Nat.mod_eq_of_lt h2]
   rw[mod_add h2 hb,mod_add h4 hb] at h3
   split at h3 <;> split at h3 <;> omega
  rw[←h1,Nat.mod_eq_of_lt (h.lt c hc)];exact hc
 ·intro hm
  refine⟨(a+d) % n,hm,?_⟩
  rw[Nat.mod_add_mod,Nat.mod_add_mod];congr 1;omega
theorem dists_turn {n:Nat} {l:List Nat} (h:Good n l) {b:Nat} (hb:b < n):dists n (marksN n (turnN n (bitsOf l) b))=dists n l:=by
 unfold dists
 apply List.map_congr_left
 intro i _
 rw[cntD_perm (turn_perm h hb),cnt_mapT h hb]
theorem turn_good {n:Nat} {l:List Nat} (h:Good n l) {b:Nat} (hb:b < n):Good n (marksN n (turnN n (bitsOf l) b)):=by
 have hl:=(turn_perm h hb).length_eq
 rw[List.length_map] at hl
 exact good_marks h.pos h.le turn_lt (by rw[hl];exact h.few)
theorem min_good {n:Nat} {l:List Nat} (h:Good n l):Good n (minT n (bitsOf l))∧goodF n (dists n l) (minT n (bitsOf l))=true:=by
 have hn:=h.le
 obtain⟨b,hb,e⟩:=(minT_least (n:=n) (s:=bitsOf l) h.pos).1
 have hg:=turn_good h hb
 have hd:=dists_turn h hb
 rw[←e] at hg hd
 refine⟨hg,?_⟩
 unfold goodF
 rw[hd,decide_eq_true rfl,Bool.and_true,decide_eq_true_eq]
 rw[show bitsOf (minT n (bitsOf l))=turnN n (bitsOf l) b from by rw[e];exact bitsOf_marks (by omega) turn_lt]
 exact minT_turn (by omega) (bitsOf_lt h.lt) hb
noncomputable def flipS (n:Nat) (l:List Nat):Nat:=setOf (fun p=>plc n ((p:Int)*(-1)+0)) l 0
theorem flip_at {n a:Nat} (h0:0 < n) (ha:a < n):plc n ((a:Int)*(-1)+0)=(n - a) % n:=by
 rw[show (a:Int)*(-1)+0 = -(a:Int) by omega,neg_plc h0 ha]
theorem flip_perm {n:Nat} {l:List Nat} (h:Good n l):(marksN n (flipS n l)).Perm (l.map fun a=>(n - a) % n)∧flipS n l < 2 ^ n:=by
 have hn:=h.le
 have hlt:flipS n l < 2 ^ n:=setOf_lt _ (Nat.two_pow_pos n) fun p _=>plc_lt h.pos _
 have inj:∀ x∈l,∀ y∈l,(n - x) % n=(n - y) % n→x=y:=fun x hx y hy e=>by
  have h1:=h.lt x hx
  have h2:=h.lt y hy
  by_cases hx0:x=0
  ·subst hx0
   by_cases hy0:y=0
   ·exact hy0.symm
   ·rw[Nat.sub_zero,Nat.mod_self,Nat.mod_eq_of_lt (by omega)] at e;omega
  ·by_cases hy0:y=0
   ·subst hy0
    rw[Nat.sub_zero,Nat.mod_self,Nat.mod_eq_of_lt (by omega)] at e;omega
   ·rw[Nat.mod_eq_of_lt (by omega),Nat.mod_eq_of_lt (by omega)] at e;omega
 refine⟨(List.perm_ext_iff_of_nodup (nodup_of_lt (marks_sorted (lt32 (n:=n) (by omega) hlt))) (nodup_map_on (nodup_of_lt h.up) inj)).2 fun x=>?_,hlt⟩
 rw[mem_marks (lt32 (n:=n) (by omega) hlt),List.mem_map]
 unfold flipS
 rw[setOf_bit,Nat.zero_testBit,Bool.false_or,List.any_eq_true]
 constructor
 ·rintro⟨_,a,ha,e⟩
  rw[decide_eq_true_eq,flip_at h.pos (h.lt a ha)] at e
  exact⟨a,ha,e⟩
 ·rintro⟨a,ha,rfl⟩
  exact⟨Nat.mod_lt _ h.pos,a,ha,by rw[decide_eq_true_eq];exact flip_at h.pos (h.lt a ha)⟩
theorem cnt_flip {n:Nat} {l:List Nat} (h:Good n l) {d:Nat} (hd:0 < d) (hdn:d < n):cntD n (l.map fun a=>(n - a) % n) d=cntD n l d:=by
 rw[←cntD_sym (nodup_of_lt h.up) h.lt hd hdn]
 unfold cntD
 rw[List.countP_map]
 apply List.countP_congr
 intro a ha
 have h0:=h.pos
 have han:=h.lt a ha
 simp only[Function.comp_apply,decide_eq_true_eq,List.mem_map]
 have key:∀ c,c < n→((n - c) % n=((n - a) % n+d) % n↔c=(a+(n - d)) % n):=fun c hc=>by
  have e1:(n - c) % n=if c=0 then 0 else n - c:=by
   split
   ·rename_i h;rw[h,Nat.sub_zero,Nat.mod_self]
   ·exact Nat.mod_eq_of_lt (by omega)
  have e2:(n - a) % n=if a=0 then 0 else n - a:=by
   split
   ·rename_i h;rw[h,Nat.sub_zero,Nat.mod_self]
   ·exact Nat.mod_eq_of_lt (by omega)
  rw[e1,mod_add (Nat.mod_lt _ h0) hdn,e2,mod_add han (show n - d < n by omega)]
  split <;> split <;> split <;> (try split) <;> omega
 constructor
 ·rintro⟨c,hc,e⟩
  rw[(key c (h.lt c hc)).1 e] at hc;exact hc
 ·intro hm
  exact⟨_,hm,(key _ (Nat.mod_lt _ h0)).2 rfl⟩
theorem flip_good {n:Nat} {l:List Nat} (h:Good n l):Good n (marksN n (flipS n l))∧dists n (marksN n (flipS n l))=dists n l:=by
 obtain⟨hp,hlt⟩:=flip_perm h
 have hl:=hp.length_eq
 rw[List.length_map] at hl
 refine⟨good_marks h.pos h.le hlt (by rw[hl];exact h.few),?_⟩
 unfold dists
 apply List.map_congr_left
 intro i hi
 have:=List.mem_range.1 hi
 rw[cntD_perm hp,cnt_flip h (by omega) (by omega)]
theorem count_one : ∀ {l : List (List Nat)}, l.Nodup → ∀ c, (l.countP fun b => decide (b = c)) = if c ∈ l then 1 else 0
 | [],_,c=>rfl
 | a :: l, h, c => by
  obtain⟨h1,h2⟩:=List.nodup_cons.1 h
  rw[List.countP_cons,count_one h2 c]
  by_cases e:a=c
  ·subst e
   rw[if_neg h1,decide_eq_true rfl,if_pos rfl,if_pos List.mem_cons_self]
  ·rw[decide_eq_false e,if_neg (show ¬ false=true from Bool.false_ne_true)]
   by_cases hc:c∈l
   ·rw[if_pos hc,if_pos (List.mem_cons_of_mem _ hc)]
   ·rw[if_neg hc,if_neg fun h=>(List.mem_cons.1 h).elim (fun h=>e h.symm) hc]
end Go.RgP
set_option maxRecDepth 100000
set_option maxHeartbeats 0
namespace Go.RgP
open Go Go.Sp Go.RgJM
noncomputable def isFst (n s:Nat):Bool:=bb (orr (Nat.beq s 0) (s.testBit 0)) (bb (Nat.ble (marksN n s).length 6) (decide (minT n s=marksN n s)) false) false
noncomputable def eqN:List Nat→List Nat→Bool:=fun a=>List.rec (motive:=fun _=>List Nat→Bool) (fun b=>nilL b) (fun x _ ih b=>ll b false fun y r=>bb (Nat.beq x y) (ih r) false) a
theorem eqN_eq:∀ (a b:List Nat),eqN a b=decide (a=b)
 | [],[]=>rfl
 | [],y::b=>rfl
 | x::a,[]=>rfl
 | x :: a, y :: b => by
  show bb (Nat.beq x y) (eqN a b) false=_
  rw[eqN_eq a b,beq_dec]
  by_cases h:x=y
  ·subst h;rw[decide_eq_true rfl,bb_true];simp
  ·rw[decide_eq_false h,bb_false,decide_eq_false (fun e=>h (by injection e))]
noncomputable def cntE (d:List Nat) (l:List (List Nat)):Nat:=List.rec (motive:=fun _=>Nat) 0 (fun x _ ih=>bb (eqN x d) (Nat.succ ih) ih) l
theorem cntE_eq (d : List Nat) : ∀ l : List (List Nat), cntE d l = l.countP fun x => decide (x = d)
 | []=>rfl
 | x :: l => by
  show bb (eqN x d) (Nat.succ (cntE d l)) (cntE d l)=_
  rw[eqN_eq,cntE_eq d l,List.countP_cons]
  cases decide (x=d) <;> rfl
theorem in_split {n x:Nat} {D:List Nat} (h0:0 < n) (hn:n≤21) (hx:x < 2 ^ n):inAll n D x=(isFst n x && decide (dists n (marksN n x)=D)):=by
 unfold inAll isFst goodF
 rw[bitsOf_marks (by omega) hx]
 cases hl:Nat.ble (marksN n x).length 6 with
 | false=>cases orr (Nat.beq x 0) (x.testBit 0) <;> rfl
 | true =>
  by_cases hm:minT n x=marksN n x
  ·have hg:=good_marks h0 hn hx (Nat.le_of_ble_eq_true hl)
   have:orr (Nat.beq x 0) (x.testBit 0)=true:=by
    rw[orr_eq]
    by_cases he:marksN n x=[]
    ·have:x=0:=by rw[←bitsOf_marks (n:=n) (by omega) hx,he];rfl
     rw[this];rfl
    ·have hz:=min_zero hg (by rw[bitsOf_marks (by omega) hx];exact hm) he
     rw[((mem_marks (lt32 (n:=n) (by omega) hx)).1 hz).2,Bool.or_true]
   rw[this,bb_true,bb_true,Bool.true_and]
  ·rw[decide_eq_false hm]
   cases orr (Nat.beq x 0) (x.testBit 0) <;> rfl
theorem few_of {n:Nat} (h0:0 < n) (hn:n≤21) (D:List Nat) {F:List Nat} {T:List (List Nat)} (hF:(List.range (2 ^ n)).filter (isFst n)=F) (hT:mapL (fun x=>dists n (marksN n x)) F=T) (hc:allL (fun d=>Nat.ble (cntE d T) 12) T=true):(allL2 n D).length≤12:=by
 have e:(allL2 n D).length=T.countP fun d=>decide (d=D):=by
  unfold allL2
  rw[List.length_map,←hT,mapL_eq,List.countP_map,←hF,List.countP_filter,List.countP_eq_length_filter]
  congr 1
  apply List.filter_congr
  intro x hx
  rw[in_split h0 hn (List.mem_range.1 hx),Bool.and_comm];rfl
 rw[e]
 by_cases hp:0 < T.countP fun d=>decide (d=D)
 ·obtain⟨d,hd,h2⟩:=List.countP_pos_iff.1 hp
  rw[decide_eq_true_eq] at h2
  subst h2
  rw[allL_eq,List.all_eq_true] at hc
  have:=Nat.le_of_ble_eq_true (hc d hd)
  rwa [cntE_eq] at this
 ·omega
noncomputable def fT1:List Nat:=[0,1]
noncomputable def dT1:List (List Nat):=[[],[]]
theorem fR1:(List.range (2 ^ 1)).filter (isFst 1)=fT1:=by kernel_rfl
theorem dR1:mapL (fun x=>dists 1 (marksN 1 x)) fT1=dT1:=by kernel_rfl
theorem cR1:allL (fun d=>Nat.ble (cntE d dT1) 12) dT1=true:=by kernel_rfl
noncomputable def fT2:List Nat:=[0,1,3]
noncomputable def dT2:List (List Nat):=[[0],[0],[2]]
theorem fR2:(List.range (2 ^ 2)).filter (isFst 2)=fT2:=by kernel_rfl
theorem dR2:mapL (fun x=>dists 2 (marksN 2 x)) fT2=dT2:=by kernel_rfl
theorem cR2:allL (fun d=>Nat.ble (cntE d dT2) 12) dT2=true:=by kernel_rfl
noncomputable def fT3:List Nat:=[0,1,3,7]
noncomputable def dT3:List (List Nat):=[[0,0],[0,0],[1,1],[3,3]]
theorem fR3:(List.range (2 ^ 3)).filter (isFst 3)=fT3:=by kernel_rfl
theorem dR3:mapL (fun x=>dists 3 (marksN 3 x)) fT3=dT3:=by kernel_rfl
theorem cR3:allL (fun d=>Nat.ble (cntE d dT3) 12) dT3=true:=by kernel_rfl
noncomputable def fT4:List Nat:=[0,1,3,5,7,15]
noncomputable def dT4:List (List Nat):=[[0,0,0],[0,0,0],[1,0,1],[0,2,0],[2,2,2],[4,4,4]]
theorem fR4:(List.range (2 ^ 4)).filter (isFst 4)=fT4:=by kernel_rfl
theorem dR4:mapL (fun x=>dists 4 (marksN 4 x)) fT4=dT4:=by kernel_rfl
theorem cR4:allL (fun d=>Nat.ble (cntE d dT4) 12) dT4=true:=by kernel_rfl
noncomputable def fT5:List Nat:=[0,1,3,5,7,11,15,31]
noncomputable def dT5:List (List Nat):=[[0,0,0,0],[0,0,0,0],[1,0,0,1],[0,1,1,0],[2,1,1,2],[1,2,2,1],[3,3,3,3],[5,5,5,5]]
theorem fR5:(List.range (2 ^ 5)).filter (isFst 5)=fT5:=by kernel_rfl
theorem dR5:mapL (fun x=>dists 5 (marksN 5 x)) fT5=dT5:=by kernel_rfl
theorem cR5:allL (fun d=>Nat.ble (cntE d dT5) 12) dT5=true:=by kernel_rfl
noncomputable def fT6:List Nat:=[0,1,3,5,7,9,11,15,19,21,23,27,31,63]
noncomputable def dT6:List (List Nat):=[[0,0,0,0,0],[0,0,0,0,0],[1,0,0,0,1],[0,1,0,1,0],[2,1,0,1,2],[0,0,2,0,0],[1,1,2,1,1],[3,2,2,2,3],[1,1,2,1,1],[0,3,0,3,0],[2,3,2,3,2],[2,2,4,2,2],[4,4,4,4,4],[6,6,6,6,6]]
theorem fR6:(List.range (2 ^ 6)).filter (isFst 6)=fT6:=by kernel_rfl
theorem dR6:mapL (fun x=>dists 6 (marksN 6 x)) fT6=dT6:=by kernel_rfl
theorem cR6:allL (fun d=>Nat.ble (cntE d dT6) 12) dT6=true:=by kernel_rfl
noncomputable def fT7:List Nat:=[0,1,3,5,7,9,11,15,19,21,23,27,31,35,39,43,47,55,63]
noncomputable def dT7:List (List Nat):=[[0,0,0,0,0,0],[0,0,0,0,0,0],[1,0,0,0,0,1],[0,1,0,0,1,0],[2,1,0,0,1,2],[0,0,1,1,0,0],[1,1,1,1,1,1],[3,2,1,1,2,3],[1,0,2,2,0,1],[0,2,1,1,2,0],[2,2,2,2,2,2],[2,1,3,3,1,2],[4,3,3,3,3,4],[1,1,1,1,1,1],[2,2,2,2,2,2],[1,3,2,2,3,1],[3,4,3,3,4,3],[3,3,4,4,3,3],[5,5,5,5,5,5]]
theorem fR7:(List.range (2 ^ 7)).filter (isFst 7)=fT7:=by kernel_rfl
theorem dR7:mapL (fun x=>dists 7 (marksN 7 x)) fT7=dT7:=by kernel_rfl
theorem cR7:allL (fun d=>Nat.ble (cntE d dT7) 12) dT7=true:=by kernel_rfl
noncomputable def fT8:List Nat:=[0,1,3,5,7,9,11,15,17,19,21,23,27,31,35,37,39,43,47,51,55,63,67,71,75,79,83,85,87,91,95,103,111,119]
noncomputable def dT8:List (List Nat):=[[0,0,0,0,0,0,0],[0,0,0,0,0,0,0],[1,0,0,0,0,0,1],[0,1,0,0,0,1,0],[2,1,0,0,0,1,2],[0,0,1,0,1,0,0],[1,1,1,0,1,1,1],[3,2,1,0,1,2,3],[0,0,0,2,0,0,0],[1,0,1,2,1,0,1],[0,2,0,2,0,2,0],[2,2,1,2,1,2,2],[2,1,2,2,2,1,2],[4,3,2,2,2,3,4],[1,0,1,2,1,0,1],[0,1,2,0,2,1,0],[2,1,2,2,2,1,2],[1,2,2,2,2,2,1],[3,3,3,2,3,3,3],[2,0,2,4,2,0,2],[3,2,3,4,3,2,3],[5,4,4,4,4,4,5],[1,1,1,0,1,1,1],[2,2,1,2,1,2,2],[1,2,3,0,3,2,1],[3,3,3,2,3,3,3],[1,2,2,2,2,2,1],[0,4,0,4,0,4,0],[2,4,2,4,2,4,2],[2,3,4,2,4,3,2],[4,5,4,4,4,5,4],[3,2,3,4,3,2,3],[4,4,5,4,5,4,4],[4,4,4,6,4,4,4]]
theorem fR8:(List.range (2 ^ 8)).filter (isFst 8)=fT8:=by kernel_rfl
theorem dR8:mapL (fun x=>dists 8 (marksN 8 x)) fT8=dT8:=by kernel_rfl
theorem cR8:allL (fun d=>Nat.ble (cntE d dT8) 12) dT8=true:=by kernel_rfl
noncomputable def fT9:List Nat:=[0,1,3,5,7,9,11,15,17,19,21,23,27,31,35,37,39,43,47,51,55,63,67,69,71,73,75,79,83,85,87,91,95,103,107,111,119,131,135,139,143,147,151,155,159,163,167,171,175,183,199,207,215,219]
noncomputable def dT9:List (List Nat):=[[0,0,0,0,0,0,0,0],[0,0,0,0,0,0,0,0],[1,0,0,0,0,0,0,1],[0,1,0,0,0,0,1,0],[2,1,0,0,0,0,1,2],[0,0,1,0,0,1,0,0],[1,1,1,0,0,1,1,1],[3,2,1,0,0,1,2,3],[0,0,0,1,1,0,0,0],[1,0,1,1,1,1,0,1],[0,2,0,1,1,0,2,0],[2,2,1,1,1,1,2,2],[2,1,2,1,1,2,1,2],[4,3,2,1,1,2,3,4],[1,0,0,2,2,0,0,1],[0,1,1,1,1,1,1,0],[2,1,1,2,2,1,1,2],[1,2,1,2,2,1,2,1],[3,3,2,2,2,2,3,3],[2,0,1,3,3,1,0,2],[3,2,2,3,3,2,2,3],[5,4,3,3,3,3,4,5],[1,0,1,1,1,1,0,1],[0,1,1,1,1,1,1,0],[2,1,1,2,2,1,1,2],[0,0,3,0,0,3,0,0],[1,1,3,1,1,3,1,1],[3,2,3,2,2,3,2,3],[1,1,2,2,2,2,1,1],[0,3,1,2,2,1,3,0],[2,3,2,3,3,2,3,2],[2,2,4,2,2,4,2,2],[4,4,4,3,3,4,4,4],[3,1,2,4,4,2,1,3],[2,2,3,3,3,3,2,2],[4,3,4,4,4,4,3,4],[4,3,3,5,5,3,3,4],[1,1,1,0,0,1,1,1],[2,2,1,1,1,1,2,2],[1,2,2,1,1,2,2,1],[3,3,2,2,2,2,3,3],[1,1,3,1,1,3,1,1],[2,3,3,2,2,3,3,2],[2,2,4,2,2,4,2,2],[4,4,4,3,3,4,4,4],[1,2,1,2,2,1,2,1],[2,3,2,3,3,2,3,2],[1,4,2,3,3,2,4,1],[3,5,3,4,4,3,5,3],[3,4,4,4,4,4,4,3],[3,2,2,3,3,2,2,3],[4,3,4,4,4,4,3,4],[3,4,4,4,4,4,4,3],[3,3,6,3,3,6,3,3]]
theorem fR9:(List.range (2 ^ 9)).filter (isFst 9)=fT9:=by kernel_rfl
theorem dR9:mapL (fun x=>dists 9 (marksN 9 x)) fT9=dT9:=by kernel_rfl
theorem cR9:allL (fun d=>Nat.ble (cntE d dT9) 12) dT9=true:=by kernel_rfl
noncomputable def fT10:List Nat:=[0,1,3,5,7,9,11,15,17,19,21,23,27,31,33,35,37,39,43,47,51,55,63,67,69,71,73,75,79,83,85,87,91,95,99,103,107,111,119,131,133,135,139,143,147,149,151,155,159,163,165,167,171,175,183,199,203,207,215,219,231,259,263,267,271,275,279,283,287,291,295,299,303,307,311,323,327,331,335,339,341,343,347,359,363,391,399,407,423]
noncomputable def dT10:List (List Nat):=[[0,0,0,0,0,0,0,0,0],[0,0,0,0,0,0,0,0,0],[1,0,0,0,0,0,0,0,1],[0,1,0,0,0,0,0,1,0],[2,1,0,0,0,0,0,1,2],[0,0,1,0,0,0,1,0,0],[1,1,1,0,0,0,1,1,1],[3,2,1,0,0,0,1,2,3],[0,0,0,1,0,1,0,0,0],[1,0,1,1,0,1,1,0,1],[0,2,0,1,0,1,0,2,0],[2,2,1,1,0,1,1,2,2],[2,1,2,1,0,1,2,1,2],[4,3,2,1,0,1,2,3,4],[0,0,0,0,2,0,0,0,0],[1,0,0,1,2,1,0,0,1],[0,1,1,0,2,0,1,1,0],[2,1,1,1,2,1,1,1,2],[1,2,1,1,2,1,1,2,1],[3,3,2,1,2,1,2,3,3],[2,0,1,2,2,2,1,0,2],[3,2,2,2,2,2,2,2,3],[5,4,3,2,2,2,3,4,5],[1,0,0,1,2,1,0,0,1],[0,1,0,2,0,2,0,1,0],[2,1,0,2,2,2,0,1,2],[0,0,2,1,0,1,2,0,0],[1,1,2,1,2,1,2,1,1],[3,2,2,2,2,2,2,2,3],[1,1,1,2,2,2,1,1,1],[0,3,0,3,0,3,0,3,0],[2,3,1,3,2,3,1,3,2],[2,2,3,2,2,2,3,2,2],[4,4,3,3,2,3,3,4,4],[2,0,0,2,4,2,0,0,2],[3,1,1,3,4,3,1,1,3],[2,2,2,2,4,2,2,2,2],[4,3,3,3,4,3,3,3,4],[4,3,2,4,4,4,2,3,4],[1,0,1,1,0,1,1,0,1],[0,1,1,0,2,0,1,1,0],[2,1,1,1,2,1,1,1,2],[1,1,2,2,0,2,2,1,1],[3,2,2,2,2,2,2,2,3],[1,0,3,2,0,2,3,0,1],[0,2,2,1,2,1,2,2,0],[2,2,3,2,2,2,3,2,2],[2,1,4,3,0,3,4,1,2],[4,3,4,3,2,3,4,3,4],[1,1,1,2,2,2,1,1,1],[0,2,2,0,4,0,2,2,0],[2,2,2,2,4,2,2,2,2],[1,3,2,3,2,3,2,3,1],[3,4,3,3,4,3,3,4,3],[3,3,4,3,4,3,4,3,3],[3,1,1,3,4,3,1,1,3],[2,1,3,3,2,3,3,1,2],[4,2,3,4,4,4,3,2,4],[3,3,3,4,4,4,3,3,3],[3,2,5,4,2,4,5,2,3],[4,2,2,4,6,4,2,2,4],[1,1,1,0,0,0,1,1,1],[2,2,1,1,0,1,1,2,2],[1,2,2,0,2,0,2,2,1],[3,3,2,1,2,1,2,3,3],[1,1,2,2,0,2,2,1,1],[2,3,2,3,0,3,2,3,2],[2,2,3,2,2,2,3,2,2],[4,4,3,3,2,3,3,4,4],[1,1,2,1,2,1,2,1,1],[2,2,3,2,2,2,3,2,2],[1,3,3,1,4,1,3,3,1],[3,4,4,2,4,2,4,4,3],[2,1,3,3,2,3,3,1,2],[3,3,4,4,2,4,4,3,3],[1,2,1,1,2,1,1,2,1],[2,3,1,3,2,3,1,3,2],[1,3,3,1,4,1,3,3,1],[3,4,3,3,4,3,3,4,3],[1,3,2,3,2,3,2,3,1],[0,5,0,5,0,5,0,5,0],[2,5,2,5,2,5,2,5,2],[2,4,4,3,4,3,4,4,2],[3,3,3,4,4,4,3,3,3],[2,4,4,2,6,2,4,4,2],[3,2,2,2,2,2,2,2,3],[4,3,3,3,4,3,3,3,4],[3,3,4,4,2,4,4,3,3],[3,3,4,3,4,3,4,3,3]]
theorem fR10:(List.range (2 ^ 10)).filter (isFst 10)=fT10:=by kernel_rfl
theorem dR10:mapL (fun x=>dists 10 (marksN 10 x)) fT10=dT10:=by kernel_rfl
theorem cR10:allL (fun d=>Nat.ble (cntE d dT10) 12) dT10=true:=by kernel_rfl
noncomputable def fT11:List Nat:=[0,1,3,5,7,9,11,15,17,19,21,23,27,31,33,35,37,39,43,47,51,55,63,67,69,71,73,75,79,83,85,87,91,95,99,103,107,111,119,131,133,135,137,139,143,147,149,151,155,159,163,165,167,171,175,183,199,203,207,211,215,219,231,259,261,263,267,271,275,277,279,283,287,291,293,295,299,303,307,311,323,327,331,335,339,341,343,347,359,363,391,395,399,407,411,423,427,515,519,523,527,531,535,539,543,547,551,555,559,563,567,579,583,587,591,595,599,603,615,619,643,647,651,655,659,663,667,675,679,683,711,775,783,791,807,839]
noncomputable def dT11:List (List Nat):=[[0,0,0,0,0,0,0,0,0,0],[0,0,0,0,0,0,0,0,0,0],[1,0,0,0,0,0,0,0,0,1],[0,1,0,0,0,0,0,0,1,0],[2,1,0,0,0,0,0,0,1,2],[0,0,1,0,0,0,0,1,0,0],[1,1,1,0,0,0,0,1,1,1],[3,2,1,0,0,0,0,1,2,3],[0,0,0,1,0,0,1,0,0,0],[1,0,1,1,0,0,1,1,0,1],[0,2,0,1,0,0,1,0,2,0],[2,2,1,1,0,0,1,1,2,2],[2,1,2,1,0,0,1,2,1,2],[4,3,2,1,0,0,1,2,3,4],[0,0,0,0,1,1,0,0,0,0],[1,0,0,1,1,1,1,0,0,1],[0,1,1,0,1,1,0,1,1,0],[2,1,1,1,1,1,1,1,1,2],[1,2,1,1,1,1,1,1,2,1],[3,3,2,1,1,1,1,2,3,3],[2,0,1,2,1,1,2,1,0,2],[3,2,2,2,1,1,2,2,2,3],[5,4,3,2,1,1,2,3,4,5],[1,0,0,0,2,2,0,0,0,1],[0,1,0,1,1,1,1,0,1,0],[2,1,0,1,2,2,1,0,1,2],[0,0,2,0,1,1,0,2,0,0],[1,1,2,0,2,2,0,2,1,1],[3,2,2,1,2,2,1,2,2,3],[1,1,1,1,2,2,1,1,1,1],[0,3,0,2,1,1,2,0,3,0],[2,3,1,2,2,2,2,1,3,2],[2,2,3,1,2,2,1,3,2,2],[4,4,3,2,2,2,2,3,4,4],[2,0,0,1,3,3,1,0,0,2],[3,1,1,2,3,3,2,1,1,3],[2,2,2,1,3,3,1,2,2,2],[4,3,3,2,3,3,2,3,3,4],[4,3,2,3,3,3,3,2,3,4],[1,0,0,1,1,1,1,0,0,1],[0,1,0,1,1,1,1,0,1,0],[2,1,0,1,2,2,1,0,1,2],[0,0,1,2,0,0,2,1,0,0],[1,1,1,2,1,1,2,1,1,1],[3,2,1,2,2,2,2,1,2,3],[1,0,2,2,1,1,2,2,0,1],[0,2,1,2,1,1,2,1,2,0],[2,2,2,2,2,2,2,2,2,2],[2,1,3,3,1,1,3,3,1,2],[4,3,3,3,2,2,3,3,3,4],[1,1,0,2,2,2,2,0,1,1],[0,2,1,1,2,2,1,1,2,0],[2,2,1,2,3,3,2,1,2,2],[1,3,1,3,2,2,3,1,3,1],[3,4,2,3,3,3,3,2,4,3],[3,3,3,3,3,3,3,3,3,3],[3,1,0,2,4,4,2,0,1,3],[2,1,2,2,3,3,2,2,1,2],[4,2,2,3,4,4,3,2,2,4],[2,1,2,2,3,3,2,2,1,2],[3,3,2,3,4,4,3,2,3,3],[3,2,4,3,3,3,3,4,2,3],[4,2,1,3,5,5,3,1,2,4],[1,0,1,1,0,0,1,1,0,1],[0,1,1,0,1,1,0,1,1,0],[2,1,1,1,1,1,1,1,1,2],[1,1,2,1,1,1,1,2,1,1],[3,2,2,1,2,2,1,2,2,3],[1,0,2,3,0,0,3,2,0,1],[0,2,1,2,1,1,2,1,2,0],[2,2,2,3,1,1,3,2,2,2],[2,1,3,3,1,1,3,3,1,2],[4,3,3,3,2,2,3,3,3,4],[1,0,2,2,1,1,2,2,0,1],[0,1,3,0,2,2,0,3,1,0],[2,1,3,2,2,2,2,3,1,2],[1,2,3,2,2,2,2,3,2,1],[3,3,4,2,3,3,2,4,3,3],[2,0,3,4,1,1,4,3,0,2],[3,2,4,4,2,2,4,4,2,3],[1,1,1,1,2,2,1,1,1,1],[2,2,1,2,3,3,2,1,2,2],[1,2,3,1,3,3,1,3,2,1],[3,3,3,2,4,4,2,3,3,3],[1,2,2,3,2,2,3,2,2,1],[0,4,1,3,2,2,3,1,4,0],[2,4,2,4,3,3,4,2,4,2],[2,3,4,3,3,3,3,4,3,2],[3,2,3,3,4,4,3,3,2,3],[2,3,4,2,4,4,2,4,3,2],[3,1,1,2,3,3,2,1,1,3],[2,1,2,3,2,2,3,2,1,2],[4,2,2,3,4,4,3,2,2,4],[3,2,3,4,3,3,4,3,2,3],[3,1,4,5,2,2,5,4,1,3],[3,2,3,3,4,4,3,3,2,3],[2,3,3,4,3,3,4,3,3,2],[1,1,1,0,0,0,0,1,1,1],[2,2,1,1,0,0,1,1,2,2],[1,2,2,0,1,1,0,2,2,1],[3,3,2,1,1,1,1,2,3,3],[1,1,2,1,1,1,1,2,1,1],[2,3,2,2,1,1,2,2,3,2],[2,2,3,1,2,2,1,3,2,2],[4,4,3,2,2,2,2,3,4,4],[1,1,1,2,1,1,2,1,1,1],[2,2,2,3,1,1,3,2,2,2],[1,3,2,2,2,2,2,2,3,1],[3,4,3,3,2,2,3,3,4,3],[2,1,2,3,2,2,3,2,1,2],[3,3,3,4,2,2,4,3,3,3],[1,1,2,0,2,2,0,2,1,1],[2,2,2,2,2,2,2,2,2,2],[1,2,4,0,3,3,0,4,2,1],[3,3,4,2,3,3,2,4,3,3],[1,2,3,1,3,3,1,3,2,1],[2,4,3,3,3,3,3,3,4,2],[2,3,5,1,4,4,1,5,3,2],[3,2,3,4,3,3,4,3,2,3],[2,3,4,2,4,4,2,4,3,2],[1,2,1,1,1,1,1,1,2,1],[2,3,1,2,2,2,2,1,3,2],[1,3,2,2,2,2,2,2,3,1],[3,4,2,3,3,3,3,2,4,3],[1,2,3,2,2,2,2,3,2,1],[2,4,3,3,3,3,3,3,4,2],[2,3,4,3,3,3,3,4,3,2],[1,3,1,3,2,2,3,1,3,1],[2,4,2,4,3,3,4,2,4,2],[1,5,2,4,3,3,4,2,5,1],[3,3,2,3,4,4,3,2,3,3],[3,2,2,2,1,1,2,2,2,3],[4,3,3,2,3,3,2,3,3,4],[3,3,3,4,2,2,4,3,3,3],[3,2,4,4,2,2,4,4,2,3],[3,3,3,3,3,3,3,3,3,3]]
theorem fR11:(List.range (2 ^ 11)).filter (isFst 11)=fT11:=by kernel_rfl
theorem dR11:mapL (fun x=>dists 11 (marksN 11 x)) fT11=dT11:=by kernel_rfl
theorem cR11:allL (fun d=>Nat.ble (cntE d dT11) 12) dT11=true:=by kernel_rfl
theorem few_all {n:Nat} (h0:0 < n) (hn:n≤11) (D:List Nat):(allL2 n D).length≤12:=by
 have h:n=1∨n=2∨n=3∨n=4∨n=5∨n=6∨n=7∨n=8∨n=9∨n=10∨n=11:=by omega
 rcases h with rfl | rfl | rfl | rfl | rfl | rfl | rfl | rfl | rfl | rfl | rfl
 ·exact few_of (by omega) (by omega) D fR1 dR1 cR1
 ·exact few_of (by omega) (by omega) D fR2 dR2 cR2
 ·exact few_of (by omega) (by omega) D fR3 dR3 cR3
 ·exact few_of (by omega) (by omega) D fR4 dR4 cR4
 ·exact few_of (by omega) (by omega) D fR5 dR5 cR5
 ·exact few_of (by omega) (by omega) D fR6 dR6 cR6
 ·exact few_of (by omega) (by omega) D fR7 dR7 cR7
 ·exact few_of (by omega) (by omega) D fR8 dR8 cR8
 ·exact few_of (by omega) (by omega) D fR9 dR9 cR9
 ·exact few_of (by omega) (by omega) D fR10 dR10 cR10
 ·exact few_of (by omega) (by omega) D fR11 dR11 cR11
end Go.RgP
set_option maxRecDepth 100000
set_option maxHeartbeats 4000000
namespace Go.RgP
open Go Go.Sp Go.RgJM
theorem markF_add (s:Nat):∀ (a b p:Nat),markF s (a+b) p=markF s a p++markF s b (p+a)
 | 0,b,p=>by rw[Nat.zero_add];rfl
 | a + 1, b, p => by
  rw[show a+1+b=(a+b)+1 by omega]
  show (bif hasB s p then p::markF s (a+b) (p+1) else markF s (a+b) (p+1))=(bif hasB s p then p::markF s a (p+1) else markF s a (p+1))++markF s b (p+(a+1))
  rw[markF_add s a b (p+1),show p+1+a=p+(a+1) by omega]
  cases hasB s p <;> rfl
theorem markF_shift {s:Nat} (hs:s < 4294967296) (d:Nat):∀ (k p:Nat),p+k≤8→(markF s k (p+d)).length=(markF (s / 2 ^ d % 256) k p).length
 | 0,_,_=>rfl
 | k + 1, p, h => by
  have e:hasB s (p+d)=hasB (s / 2 ^ d % 256) p:=by
   rw[hasB_eq hs,hasB_eq (Nat.lt_of_lt_of_le (Nat.mod_lt _ (by omega)) (by omega)),show (256:Nat)=2 ^ 8 from rfl,Nat.testBit_mod_two_pow,←Nat.shiftRight_eq_div_pow,Nat.testBit_shiftRight]
   simp[show p < 8 by omega,Nat.add_comm]
  have ih:=markF_shift hs d k (p+1) (by omega)
  rw[show p+1+d=p+d+1 by omega] at ih
  unfold markF
  rw[e]
  cases hasB (s / 2 ^ d % 256) p with
  | true=>show (markF s k (p+d+1)).length+1=(markF _ k (p+1)).length+1;rw[ih]
  | false=>exact ih
noncomputable def popB (b:Nat):Option Nat:=oo (str0[b]?) none fun c=>some c.toNat
theorem pop_tab:mapL popB (List.range 256)=mapL (fun b=>some (len (markF b 8 0))) (List.range 256):=by kernel_rfl
theorem mapL_eq' {α β:Type} (f:α→β) (l:List α):mapL f l=l.map f:=by
 induction l with
 | nil=>rfl
 | cons x l ih=>show f x::mapL f l=_;rw[ih];rfl
theorem pop_at {b:Nat} (hb:b < 256):∃ c,str0[b]?=some c∧c.toNat=(markF b 8 0).length:=by
 have h:=congrArg (fun l:List (Option Nat)=>l[b]?) pop_tab
 simp only[mapL_eq',List.getElem?_map,List.getElem?_range hb,Option.map_some,len_eq] at h
 injection h with h
 obtain⟨c,h1,h2⟩:=oo_inv (show oo (str0[b]?) none (fun c=>some c.toNat)=some _ from h)
 injection h2 with h2
 exact⟨c,h1,h2⟩
theorem p50 (k:Nat) (args:List Value):puN (k+1) 50 args=m50 (puN k) L args:=by kernel_rfl
theorem wrap8 {a:Nat} (ha:a < 256):wrapF .u8 (Int.ofNat a)=Int.ofNat a:=by
 show Int.ofNat (a % 256)=_
 rw[Nat.mod_eq_of_lt ha]
theorem and255 {a:Nat} (ha:a < 4294967296):aand .u32 (Int.ofNat a) (255:Int)=Int.ofNat (a % 256):=by
 rw[show (255:Int)=Int.ofNat 255 from rfl,aand32 ha (by omega),show (255:Nat)=2 ^ 8 - 1 from rfl,Nat.and_two_pow_sub_one_eq_mod]
theorem markF_len8 (b:Nat):(markF b 8 0).length≤8:=markF_len b 8 0
theorem pu_ones (k:Nat) {s:Nat} (hs:s < 4294967296):puN (k+1) 50 [U s]=some (IV (Int.ofNat (marksN 32 s).length)):=by
 rw[p50]
 show m50_ (puN k) L (Int.ofNat s)=_
 unfold m50_
 have d1:s / 2 ^ 16 < 4294967296:=Nat.lt_of_le_of_lt (Nat.div_le_self _ _) hs
 have d2:s / 2 ^ 8 < 4294967296:=Nat.lt_of_le_of_lt (Nat.div_le_self _ _) hs
 have d3:s / 2 ^ 24 < 256:=by omega
 obtain⟨c0,g0,n0⟩:=pop_at d3
 obtain⟨c1,g1,n1⟩:=pop_at (b:=s / 2 ^ 16 % 256) (Nat.mod_lt _ (by omega))
 obtain⟨c2,g2,n2⟩:=pop_at (b:=s / 2 ^ 8 % 256) (Nat.mod_lt _ (by omega))
 obtain⟨c3,g3,n3⟩:=pop_at (b:=s % 256) (Nat.mod_lt _ (by omega))
 rw[shr32 hs,shr32 hs,shr32 hs,and255 d1,and255 d2,and255 hs]
 show oo (str0[s / 2 ^ 24]?) none _=_
 rw[g0,oo_some]
 show oo (str0[s / 2 ^ 16 % 256]?) none _=_
 rw[g1,oo_some]
 show oo (str0[s / 2 ^ 8 % 256]?) none _=_
 rw[g2,oo_some]
 show oo (str0[s % 256]?) none _=_
 rw[g3,oo_some,n0,n1,n2,n3]
 have l0:=markF_len8 (s / 2 ^ 24)
 have l1:=markF_len8 (s / 2 ^ 16 % 256)
 have l2:=markF_len8 (s / 2 ^ 8 % 256)
 have l3:=markF_len8 (s % 256)
 show some (IV (wrapF .i64 (wrapF .u8 (Int.add (wrapF .u8 (Int.add (wrapF .u8 (Int.ofNat ((markF (s / 2 ^ 24) 8 0).length+(markF (s / 2 ^ 16 % 256) 8 0).length))) _)) _))))=_
 rw[wrap8 (by omega)]
 show some (IV (wrapF .i64 (wrapF .u8 (Int.add (wrapF .u8 (Int.ofNat ((markF (s / 2 ^ 24) 8 0).length+(markF (s / 2 ^ 16 % 256) 8 0).length+(markF (s / 2 ^ 8 % 256) 8 0).length))) _))))=_
 rw[wrap8 (by omega)]
 show some (IV (wrapF .i64 (wrapF .u8 (Int.ofNat ((markF (s / 2 ^ 24) 8 0).length+(markF (s / 2 ^ 16 % 256) 8 0).length+(markF (s / 2 ^ 8 % 256) 8 0).length+(markF (s % 256) 8 0).length)))))=_
 have e:(marksN 32 s).length=(markF (s / 2 ^ 24) 8 0).length+(markF (s / 2 ^ 16 % 256) 8 0).length+(markF (s / 2 ^ 8 % 256) 8 0).length+(markF (s % 256) 8 0).length:=by
  show (markF s (8+(8+(8+8))) 0).length=_
  rw[markF_add,markF_add,markF_add]
  simp only[List.length_append]
  have q0:=markF_shift hs 0 8 0 (by omega)
  have q1:=markF_shift hs 8 8 0 (by omega)
  have q2:=markF_shift hs 16 8 0 (by omega)
  have q3:=markF_shift hs 24 8 0 (by omega)
  rw[Nat.pow_zero,Nat.div_one] at q0
  rw[show s / 2 ^ 24 % 256=s / 2 ^ 24 from Nat.mod_eq_of_lt d3] at q3
  simp only[Nat.zero_add] at q0 q1 q2 q3
  show (markF s 8 0).length+((markF s 8 8).length+((markF s 8 16).length+(markF s 8 24).length))=_
  rw[q0,q1,q2,q3];omega
 generalize (markF (s / 2 ^ 24) 8 0).length=a0 at *
 generalize (markF (s / 2 ^ 16 % 256) 8 0).length=a1 at *
 generalize (markF (s / 2 ^ 8 % 256) 8 0).length=a2 at *
 generalize (markF (s % 256) 8 0).length=a3 at *
 rw[wrap8 (by omega),wrapI _ (by simp;omega) (by simp;omega),e]
end Go.RgP
set_option maxRecDepth 100000
set_option maxHeartbeats 4000000
namespace Go.RgP
open Go Go.Sp Go.RgJM
theorem fewer {s t:Nat} (hs:s < 4294967296) (hle:∀ q,t.testBit q=true→s.testBit q=true) (ht:t < s):(marksN 32 t).length < (marksN 32 s).length:=by
 have ht32:t < 4294967296:=by omega
 have e:marksN 32 t=(marksN 32 s).filter fun x=>t.testBit x:=by
  refine sorted_ext (marks_sorted ht32) (List.Pairwise.sublist List.filter_sublist (marks_sorted hs)) fun x=>?_
  rw[mem_marks ht32,List.mem_filter,mem_marks hs]
  exact⟨fun h=>⟨⟨h.1,hle x h.2⟩,h.2⟩,fun h=>⟨h.1.1,h.2⟩⟩
 rw[e]
 have hle2:=List.filter_sublist (p:=fun x=>t.testBit x) (l:=marksN 32 s)
 refine Nat.lt_of_le_of_ne hle2.length_le fun he=>?_
 have:=hle2.eq_of_length he
 rw[←e] at this
 have h2:∀ q,q < 32→t.testBit q=s.testBit q:=fun q hq=>by
  have hm:q∈marksN 32 t↔q∈marksN 32 s:=by rw[this]
  rw[mem_marks ht32,mem_marks hs] at hm
  rw[Bool.eq_iff_iff]
  exact⟨fun h=>(hm.1 ⟨hq,h⟩).2,fun h=>(hm.2 ⟨hq,h⟩).2⟩
 have:=set_ext (n:=32) (a:=t) (b:=s) ht32 hs h2
 omega
theorem stamp_loop (k:Nat) {n:Nat} (hn:n≤21):∀ (w s:Nat),s < 2 ^ n→(marksN 32 s).length < w→∃ t,l46_1 (puN (k+1)) L w (Int.ofNat n) (Int.ofNat s)=some (tup2 (IV (Int.ofNat n)) (U t))∧t < 2 ^ n∧(marksN 32 t).length≤6
 | 0,_,_,h=>by omega
 | w + 1, s, hs, hw => by
  have hs32:=lt32 (by omega) hs
  have hb:l46_1 (puN (k+1)) L (w+1) (Int.ofNat n) (Int.ofNat s)=bb (Nat.blt 6 (marksN 32 s).length) (l46_1 (puN (k+1)) L w (Int.ofNat n) (aand .u32 (Int.ofNat s) (wrapF .u32 (Int.sub (Int.ofNat s) (1:Int))))) (some (tup2 (IV (Int.ofNat n)) (U s))):=by
   show b46_1 (puN (k+1)) L (l46_1 (puN (k+1)) L w) (Int.ofNat n) (Int.ofNat s)=_
   unfold b46_1
   show oo (puN (k+1) 50 [U s]) none _=_
   rw[pu_ones k hs32,oo_some]
   show bb (ilt (Int.ofNat 6) (Int.ofNat (marksN 32 s).length)) _ _=_
   rw[ilt_nat];rfl
  rw[hb]
  cases hc:Nat.blt 6 (marksN 32 s).length with
  | false =>
   rw[blt_eq] at hc
   exact⟨s,rfl,hs,by simpa using hc⟩
  | true =>
   rw[blt_eq] at hc
   have hc:6 < (marksN 32 s).length:=by simpa using hc
   have hs0:0 < s:=by
    rcases Nat.eq_zero_or_pos s with h | h
    ·exfalso
     have:∀ x,x ∉ marksN 32 s:=fun x hx=>by
      have:=((mem_marks hs32).1 hx).2
      rw[h] at this;simp at this
     have:marksN 32 s=[]:=List.eq_nil_iff_forall_not_mem.2 this
     rw[this] at hc;simp at hc
    ·exact h
   have hle:s &&& (s - 1)≤s - 1:=Nat.and_le_right
   have e:wrapF .u32 (Int.sub (Int.ofNat s) (1:Int))=Int.ofNat (s - 1):=by
    rw[show Int.sub (Int.ofNat s) (1:Int)=Int.ofNat (s - 1) from by show (s:Int) - 1=((s - 1:Nat):Int);omega]
    exact wrap32 (by omega)
   rw[bb_true,e,aand32 hs32 (by omega)]
   have hf:=fewer (t:=s &&& (s - 1)) hs32 (fun q h=>by rw[Nat.testBit_and] at h;exact(Bool.and_eq_true _ _ ▸ h).1) (by omega)
   exact stamp_loop k hn w (s &&& (s - 1)) (by omega) (by omega)
theorem p46 (k:Nat) (args:List Value):puN (k+1) 46 args=m46 (puN k) L args:=by kernel_rfl
theorem pu_stamp (k:Nat) {most p b:Nat} (hm0:0 < most) (hm:most≤21) (hp:p < 256) (hb:b < 4294967296):∃ l,Good (1+p % most) l ∧
 puN (k+2) 46 [.agg ⟨[.int .u8 (Int.ofNat p),.int .u32 (Int.ofNat b)]⟩,IV (Int.ofNat most)]=some (tup2 (IV (Int.ofNat (1+p % most))) (U (bitsOf l))):=by
 have hmod:p % most < most:=Nat.mod_lt _ hm0
 have h2n:2 ^ (1+p % most) < 4294967296:=Nat.lt_of_le_of_lt (Nat.pow_le_pow_right (by omega) (show 1+p % most≤21 by omega)) (by decide)
 have hpos:=Nat.two_pow_pos (1+p % most)
 have hlt:b &&& (2 ^ (1+p % most) - 1) < 2 ^ (1+p % most):=by rw[Nat.and_two_pow_sub_one_eq_mod];exact Nat.mod_lt _ hpos
 have hlen:(marksN 32 (b &&& (2 ^ (1+p % most) - 1))).length≤32:=marks_len
 obtain⟨t,h1,h2,h3⟩:=stamp_loop k (n:=1+p % most) (by omega) L (b &&& (2 ^ (1+p % most) - 1)) hlt (by show _ < 1000000;omega)
 have ht32:=lt32 (n:=1+p % most) (by omega) h2
 refine⟨marksN (1+p % most) t,⟨by omega,by omega,?_,marks_sorted ht32,fun x hx=>((mem_marks ht32).1 hx).1⟩,?_⟩
 ·rw[←marks_more (m:=32) ht32 h2 (by omega)];exact h3
 ·rw[bitsOf_marks (by omega) h2,p46]
  show m46_ (puN (k+1)) L (Int.ofNat p) (Int.ofNat b) (Int.ofNat most)=_
  unfold m46_
  have e0:ieq (Int.ofNat most) 0=false:=by rw[show (0:Int)=Int.ofNat 0 from rfl,ieq_nat];exact beq_ne (by omega)
  have e1:wrapF .i64 (Int.add (1:Int) (Int.tmod (wrapF .i64 (Int.ofNat p)) (Int.ofNat most)))=Int.ofNat (1+p % most):=by
   rw[wrapI (Int.ofNat p) (by show (-9223372036854775808:Int)≤(p:Int);omega) (by show (p:Int)≤9223372036854775807;omega)]
   show wrapF .i64 ((1:Int)+Int.tmod (p:Int) (most:Int))=(((1+p % most:Nat)):Int)
   rw[Int.tmod_eq_emod_of_nonneg (by omega),←Int.natCast_emod,wrapI _ (by omega) (by omega)];omega
  rw[e0,show nt false=true from rfl,bb_true,e1]
  show oo (toN (Int.ofNat (1+p % most))) none _=_
  rw[show ∀ j,toN (Int.ofNat j)=some j from fun _=>rfl,oo_some,shl32 (by omega)]
  have e2:wrapF .u32 (Int.sub (Int.ofNat (2 ^ (1+p % most))) (1:Int))=Int.ofNat (2 ^ (1+p % most) - 1):=by
   rw[show Int.sub (Int.ofNat (2 ^ (1+p % most))) (1:Int)=Int.ofNat (2 ^ (1+p % most) - 1) from by show ((2 ^ (1+p % most):Nat):Int) - 1=((2 ^ (1+p % most) - 1:Nat):Int);omega]
   exact wrap32 (by omega)
  rw[e2,aand32 hb (by omega),h1]
end Go.RgP
set_option maxRecDepth 100000
set_option maxHeartbeats 4000000
namespace Go.RgP
open Go Go.Sp Go.RgJM
theorem marks48_loop (pu:PureF) (L s:Nat):∀ (k w p c:Nat) (q:List Nat),k < w→p+k=21→q.length≤p→c / 2=q.length→c % 2=0 →
 l48_1 pu L w (Int.ofNat s) q.length c (Int.ofNat p) (vL q)=some (slv (q++markF s k p))
 | k,0,_,_,_,h,_,_,_,_=>by omega
 | 0, w + 1, p, c, q, _, hk, _, _, _ => by
  show b48_1 pu L (l48_1 pu L w) (Int.ofNat s) q.length c (Int.ofNat p) (vL q)=_
  unfold b48_1
  rw[vL_closed,bb_true,show (21:Int)=Int.ofNat 21 from rfl,ilt_nat,show Nat.blt p 21=false from by rw[blt_eq];simp;omega,bb_false]
  unfold m48_0
  rw[vL_closed,bb_true,fin_vL]
  show _=some (slv (q++[]))
  rw[List.append_nil]
 | k + 1, w + 1, p, c, q, hw, hk, hq, hc, hc2 => by
  show b48_1 pu L (l48_1 pu L w) (Int.ofNat s) q.length c (Int.ofNat p) (vL q)=_
  unfold b48_1
  rw[vL_closed,bb_true,show (21:Int)=Int.ofNat 21 from rfl,ilt_nat,show Nat.blt p 21=true from by rw[blt_eq];simp;omega,bb_true]
  show bb (hasB s p) _ _=_
  have hs:wrapF .i64 (Int.add (Int.ofNat p) 1)=Int.ofNat (p+1):=wrapS p (by omega)
  unfold markF
  cases hasB s p with
  | false =>
   rw[bb_false]
   unfold m48_2
   rw[vL_closed,bb_true,hs]
   exact marks48_loop pu L s k w (p+1) c q (by omega) (by omega) (by omega) hc hc2
  | true =>
   rw[bb_true,grow_vL (by omega) hc hc2,bb_true,vL_snoc,vL_closed,bb_true]
   unfold m48_2
   rw[vL_closed,bb_true,hs]
   have ih:=marks48_loop pu L s k w (p+1) (2*(q.length+1)+bb false 1 0) (q++[p]) (by omega) (by omega) (by simp;omega) (by simp) (by simp)
   rw[List.length_append] at ih
   show l48_1 pu L w (Int.ofNat s) (q.length+1) (2*(q.length+1)+bb false 1 0) (Int.ofNat (p+1)) (vL (q++[p]))=_
   rw[show [p].length=1 from rfl] at ih
   rw[ih,List.append_assoc];rfl
theorem p48 (k:Nat) (args:List Value):puN (k+1) 48 args=m48 (puN k) L args:=by kernel_rfl
theorem pu_marks48 (k s:Nat):puN (k+1) 48 [U s]=some (slv (marksN 21 s)):=by
 rw[p48];exact marks48_loop (puN k) L s 21 L 0 0 [] (by show 21 < 1000000;omega) rfl (by simp) rfl rfl
theorem p47 (k:Nat) (args:List Value):puN (k+1) 47 args=m47 (puN k) L args:=by kernel_rfl
theorem pu_sealed (k n s:Nat):puN (k+2) 47 [IV (Int.ofNat n),U s]=some (seaV n (marksN 21 s)):=by
 rw[p47]
 show oo (puN (k+1) 48 [U s]) none _=_
 rw[pu_marks48,oo_some];rfl
end Go.RgP
set_option maxRecDepth 100000
set_option maxHeartbeats 4000000
namespace Go.RgP
open Go Go.Sp Go.RgJM
theorem moved49_loop (pu:PureF) (L:Nat) {n:Nat} (hn0:0 < n) (hn:n≤21) {m b:Int} (hm:-100≤m) (hm2:m≤100) (hb:-100000000≤b) (hb2:b≤100000000) {l:List Nat} (hl:∀ x∈l,x < 32) (hl2:l.length < 100) :
 ∀ (r:List Nat) (w i z:Nat),l.drop i=r→r.length < w→i≤l.length→z < 2 ^ n →
 l49_1 pu L w (Int.ofNat n) m b (Int.ofNat z) ⟨l.length,0,vL l⟩ (Int.ofNat l.length) (Int.ofNat i)=some (U (setOf (fun p=>plc n ((p:Int)*m+b)) r z))
 | _,0,_,_,_,h,_,_=>by omega
 | [], w + 1, i, z, hd, _, hi, _ => by
  show b49_1 pu L (l49_1 pu L w) (Int.ofNat n) m b (Int.ofNat z) ⟨l.length,0,vL l⟩ (Int.ofNat l.length) (Int.ofNat i)=_
  have:l.length≤i:=List.drop_eq_nil_iff.1 hd
  unfold b49_1
  rw[ilt_nat,show Nat.blt i l.length=false from by rw[blt_eq];simp;omega];rfl
 | p :: r, w + 1, i, z, hd, hw, hi, hz => by
  show b49_1 pu L (l49_1 pu L w) (Int.ofNat n) m b (Int.ofNat z) ⟨l.length,0,vL l⟩ (Int.ofNat l.length) (Int.ofNat i)=_
  obtain⟨hd2,hi2,hb'⟩:=drop_next hd
  have hp:=hl p hb'
  have hr:(p::r).length=r.length+1:=rfl
  have hlt:Nat.blt i l.length=true:=by rw[blt_eq];simp;omega
  have hs:wrapF .i64 (Int.add (Int.ofNat i) 1)=Int.ofNat (i+1):=wrapS i (by omega)
  have hpl:=plc_lt hn0 ((p:Int)*m+b)
  have hk:2 ^ plc n ((p:Int)*m+b) < 2 ^ n:=Nat.pow_lt_pow_right (by omega) hpl
  have hz2:z ||| 2 ^ plc n ((p:Int)*m+b) < 2 ^ n:=Nat.or_lt_two_pow hz hk
  have ih:=moved49_loop pu L hn0 hn hm hm2 hb hb2 hl hl2 r w (i+1) _ hd2 (by omega) (by omega) hz2
  have b1:-3200≤(p:Int)*m:=by
   have:(p:Int)*(-100)≤(p:Int)*m:=Int.mul_le_mul_of_nonneg_left hm (by omega)
   omega
  have b2:(p:Int)*m≤3200:=by
   have:(p:Int)*m≤(p:Int)*100:=Int.mul_le_mul_of_nonneg_left hm2 (by omega)
   omega
  have hne:ieq (Int.ofNat n) 0=false:=by rw[show (0:Int)=Int.ofNat 0 from rfl,ieq_nat];exact beq_ne (by omega)
  have e1:wrapF .i64 (Int.mul (Int.ofNat p) m)=(p:Int)*m:=wrapI _ (by show _≤(p:Int)*m;omega) (by show (p:Int)*m≤_;omega)
  have e2:=rem2 hn0 (by omega) (x:=(p:Int)*m+b) (by omega) (by omega)
  unfold b49_1
  rw[ilt_nat,hlt,bb_true,show toN (Int.ofNat i)=some i from rfl,oo_some]
  show bb (an (Nat.blt i l.length) true) _ none=_
  rw[hlt,show an true true=true from rfl,bb_true]
  show oo (nthL (vL l) (i*1)) none _=_
  rw[vL_get hd,oo_some,show toI .i64 (IV (Int.ofNat p))=some (Int.ofNat p) from rfl,oo_some,hne,show nt false=true from rfl,bb_true,bb_true,e1]
  show oo (toN (Int.tmod (wrapF .i64 (Int.add (Int.tmod (wrapF .i64 ((p:Int)*m+b)) (Int.ofNat n)) (Int.ofNat n))) (Int.ofNat n))) none _=_
  rw[e2,show ∀ j,toN (Int.ofNat j)=some j from fun _=>rfl,oo_some,shl32 (by omega),aor32 (lt32 (by omega) hz) (lt32 (by omega) hk),hs,ih];rfl
theorem p49 (k:Nat) (args:List Value):puN (k+1) 49 args=m49 (puN k) L args:=by kernel_rfl
theorem pu_moved (k:Nat) {n s:Nat} (hn0:0 < n) (hn:n≤21) (hs:s < 2 ^ n) {m b:Int} (hm:-100≤m) (hm2:m≤100) (hb:-100000000≤b) (hb2:b≤100000000) :
 puN (k+2) 49 [IV (Int.ofNat n),U s,IV m,IV b]=some (U (setOf (fun p=>plc n ((p:Int)*m+b)) (marksN n s) 0)):=by
 have hs32:=lt32 (by omega) hs
 have hl:=marks_len (n:=n) (s:=s)
 rw[p49]
 show oo (puN (k+1) 48 [U s]) none _=_
 rw[pu_marks48,oo_some,marks_more hs32 hs hn]
 exact moved49_loop (puN (k+1)) L hn0 hn hm hm2 hb hb2 (fun x hx=>by have:=(mem_marks hs32).1 hx;omega) (by omega) _ L 0 0 (List.drop_zero) (by show _ < 1000000;omega) (by omega) (Nat.two_pow_pos n)
theorem pu_turned1 (k:Nat) {n s:Nat} (hn0:0 < n) (hn:n≤21) (hs:s < 2 ^ n) {b:Int} (hb:-100000000≤b) (hb2:b≤100000000) :
 puN (k+2) 49 [IV (Int.ofNat n),U s,IV 1,IV b]=some (U (turnN n s (plc n b))):=by
 rw[pu_moved k hn0 hn hs (by omega) (by omega) hb hb2,←turn_moved hn0 (by omega) hs]
 simp only[Int.mul_one]
end Go.RgP
set_option maxRecDepth 100000
set_option maxHeartbeats 4000000
namespace Go.RgP
open Go Go.Sp Go.RgJM
theorem ret51 (pu:PureF) (L:Nat) (q:List Nat) (c:Nat):m51_0 pu L q.length c (vL q)=some (slv q):=by
 unfold m51_0
 rw[vL_closed,bb_true,fin_vL]
theorem apart_loop (k:Nat) {n s:Nat} (hn:n≤21) (hs:s < 2 ^ n):∀ (j w d c:Nat) (q:List Nat),j < w→d+j=n→0 < d→q.length=d - 1→c / 2=q.length→c % 2=0 →
 l51_1 (puN (k+2)) L w (Int.ofNat n) (Int.ofNat s) q.length c (Int.ofNat d) (vL q)=some (slv (q++(List.range j).map fun i=>cntD n (marksN n s) (d+i)))
 | j,0,_,_,_,h,_,_,_,_,_=>by omega
 | 0, w + 1, d, c, q, _, hd, h0, _, _, _ => by
  show b51_1 (puN (k+2)) L (l51_1 (puN (k+2)) L w) (Int.ofNat n) (Int.ofNat s) q.length c (Int.ofNat d) (vL q)=_
  unfold b51_1
  rw[vL_closed,bb_true,ilt_nat,show Nat.blt d n=false from by rw[blt_eq];simp;omega,bb_false,ret51]
  show _=some (slv (q++[]))
  rw[List.append_nil]
 | j + 1, w + 1, d, c, q, hw, hd, h0, hq, hc, hc2 => by
  show b51_1 (puN (k+2)) L (l51_1 (puN (k+2)) L w) (Int.ofNat n) (Int.ofNat s) q.length c (Int.ofNat d) (vL q)=_
  have hs32:=lt32 (by omega) hs
  have hand:s &&& turnN n s d < 4294967296:=Nat.lt_of_le_of_lt Nat.and_le_left hs32
  unfold b51_1
  rw[vL_closed,bb_true,ilt_nat,show Nat.blt d n=true from by rw[blt_eq];simp;omega,bb_true]
  have hmv:puN (k+2) 49 [(.int .i64 (Int.ofNat n)),(.int .u32 (Int.ofNat s)),(.int .i64 (1:Int)),(.int .i64 (Int.ofNat d))]=some (U (turnN n s d)):=by
   have:=pu_turned1 k (n:=n) (s:=s) (by omega) hn hs (b:=(d:Int)) (by omega) (by omega)
   rw[show plc n (d:Int)=d from by rw[plc_nat];exact Nat.mod_eq_of_lt (by omega)] at this
   exact this
  have hon:puN (k+2) 50 [.int .u32 (Int.ofNat (s &&& turnN n s d))]=some (IV (Int.ofNat (cntD n (marksN n s) d))):=by
   have:=pu_ones (k+1) hand
   rw[common_cnt (by omega) hs h0 (by omega) (by omega)] at this;exact this
  rw[hmv,oo_some]
  show oo (puN (k+2) 50 [.int .u32 (aand .u32 (Int.ofNat s) (Int.ofNat (turnN n s d)))]) none _=_
  rw[aand32 hs32 (lt32 (n:=n) (by omega) turn_lt),hon,oo_some]
  show bb (growC 1 8 q.length c 1 (vL q)) (bb (allL closed1 (appL (dropL 0 (vL q)) [.int .i64 (Int.ofNat (cntD n (marksN n s) d))])) (l51_1 (puN (k+2)) L w (Int.ofNat n) (Int.ofNat s) (q.length+1) (2*(q.length+1)+bb false 1 0) (wrapF .i64 (Int.add (Int.ofNat d) (1:Int))) (appL (dropL 0 (vL q)) [.int .i64 (Int.ofNat (cntD n (marksN n s) d))])) none) none=_
  rw[grow_vL (by omega) hc hc2,bb_true,vL_snoc,vL_closed,bb_true,wrapS d (by omega)]
  have ih:=apart_loop k hn hs j w (d+1) (2*(q.length+1)+bb false 1 0) (q++[cntD n (marksN n s) d]) (by omega) (by omega) (by omega) (by simp;omega) (by simp) (by simp)
  rw[List.length_append,show [cntD n (marksN n s) d].length=1 from rfl] at ih
  rw[ih,List.append_assoc,List.range_succ_eq_map,List.map_cons,List.map_map]
  congr 4
  show [cntD n (marksN n s) d]++_=_
  rw[List.singleton_append,Nat.add_zero]
  congr 1
  apply List.map_congr_left
  intro i _
  show cntD n (marksN n s) (d+1+i)=cntD n (marksN n s) (d+(i+1))
  rw[show d+1+i=d+(i+1) by omega]
theorem p51 (k:Nat) (args:List Value):puN (k+1) 51 args=m51 (puN k) L args:=by kernel_rfl
theorem pu_apart (k:Nat) {n s:Nat} (hn0:0 < n) (hn:n≤21) (hs:s < 2 ^ n):puN (k+3) 51 [IV (Int.ofNat n),U s]=some (slv (dists n (marksN n s))):=by
 rw[p51]
 have h:=apart_loop k hn hs (n - 1) L 1 0 [] (by show n - 1 < 1000000;omega) (by omega) (by omega) rfl rfl rfl
 show l51_1 (puN (k+2)) L L (Int.ofNat n) (Int.ofNat s) 0 0 (1:Int) (vL [])=_
 have e:(List.range (n - 1)).map (fun i=>cntD n (marksN n s) (1+i))=dists n (marksN n s):=by
  unfold dists
  apply List.map_congr_left
  intro i _
  rw[Nat.add_comm]
 rw[List.nil_append,e] at h
 exact h
end Go.RgP
set_option maxRecDepth 100000
set_option maxHeartbeats 4000000
namespace Go.RgP
open Go Go.Sp Go.RgJM
theorem least_loop (k : Nat) {n s : Nat} (hn0 : 0 < n) (hn : n ≤ 21) (hs : s < 2 ^ n) : ∀ (j w b best : Nat), j < w → b + j = n → best < 2 ^ n → ∃ z, z < 2 ^ n ∧ marksN n z = minL (marksN n best) ((List.range' b j).map fun i => marksN n (turnN n s i)) ∧
 l58_1 (puN (k+3)) L w (Int.ofNat n) (Int.ofNat s) (Int.ofNat best) (Int.ofNat n) (Int.ofNat b)=some (U z)
 | j,0,_,_,hw,_,_=>by omega
 | 0, w + 1, b, best, _, hb, hbest => by
  refine⟨best,hbest,rfl,?_⟩
  show b58_1 (puN (k+3)) L (l58_1 (puN (k+3)) L w) (Int.ofNat n) (Int.ofNat s) (Int.ofNat best) (Int.ofNat n) (Int.ofNat b)=_
  unfold b58_1
  rw[ilt_nat,show Nat.blt b n=false from by rw[blt_eq];simp;omega];rfl
 | j + 1, w + 1, b, best, hw, hb, hbest => by
  have ht:=turn_lt (n:=n) (s:=s) (b:=b)
  have hlen:=marks_len (n:=n) (s:=turnN n s b)
  have hbool:(bif lexB (marksN n (turnN n s b)) (marksN n best) then turnN n s b else best) < 2 ^ n:=by
   cases lexB (marksN n (turnN n s b)) (marksN n best) with
   | true=>exact ht
   | false=>exact hbest
  obtain⟨z,z1,z2,z3⟩:=least_loop k hn0 hn hs j w (b+1) (bif lexB (marksN n (turnN n s b)) (marksN n best) then turnN n s b else best) (by omega) (by omega) hbool
  refine⟨z,z1,?_,?_⟩
  ·rw[z2,List.range'_succ,List.map_cons]
   show _=minL (bif lexB (marksN n (turnN n s b)) (marksN n best) then marksN n (turnN n s b) else marksN n best) _
   congr 1
   cases lexB (marksN n (turnN n s b)) (marksN n best) <;> rfl
  ·show b58_1 (puN (k+3)) L (l58_1 (puN (k+3)) L w) (Int.ofNat n) (Int.ofNat s) (Int.ofNat best) (Int.ofNat n) (Int.ofNat b)=_
   have hmv:=pu_turned1 (k+1) hn0 hn hs (b:=(b:Int)) (by omega) (by omega)
   rw[plc_nat,Nat.mod_eq_of_lt (by omega)] at hmv
   have hm1:puN (k+3) 48 [U (turnN n s b)]=some (slv (marksN n (turnN n s b))):=by
    rw[show k+3=(k+2)+1 from rfl,pu_marks48,marks_more (lt32 (n:=n) (by omega) ht) ht hn]
   have hm2:puN (k+3) 48 [U best]=some (slv (marksN n best)):=by
    rw[show k+3=(k+2)+1 from rfl,pu_marks48,marks_more (lt32 (n:=n) (by omega) hbest) hbest hn]
   unfold b58_1
   rw[ilt_nat,show Nat.blt b n=true from by rw[blt_eq];simp;omega,bb_true]
   show oo (puN (k+3) 49 [IV (Int.ofNat n),U s,IV 1,IV (b:Int)]) none _=_
   rw[hmv,oo_some]
   show oo (puN (k+3) 48 [U (turnN n s b)]) none _=_
   rw[hm1,oo_some]
   show oo (puN (k+3) 48 [U best]) none _=_
   rw[hm2,oo_some]
   show oo (puN (k+3) 52 [Sl.v 1 ⟨(marksN n (turnN n s b)).length,0,vL (marksN n (turnN n s b))⟩,Sl.v 1 ⟨(marksN n best).length,0,vL (marksN n best)⟩]) none _=_
   rw[pu_compare k 0 0 (by omega),oo_some]
   unfold m58_2
   show bb (ilt (cmpN (marksN n (turnN n s b)) (marksN n best)) 0) (l58_1 (puN (k+3)) L w (Int.ofNat n) (Int.ofNat s) (Int.ofNat (turnN n s b)) (Int.ofNat n) (wrapF .i64 (Int.add (Int.ofNat b) (1:Int)))) (l58_1 (puN (k+3)) L w (Int.ofNat n) (Int.ofNat s) (Int.ofNat best) (Int.ofNat n) (wrapF .i64 (Int.add (Int.ofNat b) (1:Int))))=_
   rw[cmp_neg,wrapS b (by omega)]
   revert z3
   cases lexB (marksN n (turnN n s b)) (marksN n best) with
   | true=>exact fun z3=>z3
   | false=>exact fun z3=>z3
theorem p58 (k:Nat) (args:List Value):puN (k+1) 58 args=m58 (puN k) L args:=by kernel_rfl
theorem pu_least (k:Nat) {n s:Nat} (hn0:0 < n) (hn:n≤21) (hs:s < 2 ^ n):puN (k+4) 58 [IV (Int.ofNat n),U s]=some (U (bitsOf (minT n s))):=by
 obtain⟨z,z1,z2,z3⟩:=least_loop k hn0 hn hs n L 0 s (by show n < 1000000;omega) (by omega) hs
 have e:minL (marksN n s) ((List.range' 0 n).map fun i=>marksN n (turnN n s i))=minT n s:=by
  obtain⟨m,rfl⟩:∃ m,n=m+1:=⟨n - 1,by omega⟩
  rw[List.range'_succ,List.map_cons,turn_zero (by omega) (by omega) hs]
  show minL (bif lexB (marksN (m+1) s) (marksN (m+1) s) then marksN (m+1) s else marksN (m+1) s) _=_
  rw[lexB_irr]
  show minL (marksN (m+1) s) _=minL (marksN (m+1) (turnN (m+1) s 0)) _
  rw[turn_zero (by omega) (by omega) hs,List.range'_eq_map_range,List.map_map]
  congr 1
  apply List.map_congr_left
  intro i _
  show marksN (m+1) (turnN (m+1) s (0+1+i))=_
  rw[Nat.zero_add,Nat.add_comm 1 i]
 rw[e] at z2
 have hz:z=bitsOf (minT n s):=by rw[←z2,bitsOf_marks (by omega) z1]
 rw[p58,←hz]
 exact z3
end Go.RgP
set_option maxRecDepth 100000
set_option maxHeartbeats 4000000
namespace Go.RgP
open Go Go.Sp Go.RgJM
theorem check_loop (pu:PureF) (L:Nat) {n:Int} {l:List Int} (hl:l.length < 900000) (f f':Nat) (l':List Value) (m':Nat):∀ (r:List Int) (w i:Nat) (last:Int),l.drop i=r→r.length < w→i≤l.length →
 l25_2 pu L w last ⟨l.length,f,iLI l⟩ (Int.ofNat l.length) (Int.ofNat i) n ⟨m',f',l'⟩=some (IV (chk n r last))
 | _,0,_,_,_,h,_=>by omega
 | [], w + 1, i, last, hd, _, hi => by
  show b25_2 pu L (l25_2 pu L w) last ⟨l.length,f,iLI l⟩ (Int.ofNat l.length) (Int.ofNat i) n ⟨m',f',l'⟩=_
  have h1:l.length≤i:=List.drop_eq_nil_iff.1 hd
  unfold b25_2
  rw[ilt_nat,show Nat.blt i l.length=false from by rw[blt_eq];simp;omega];rfl
 | x :: r, w + 1, i, last, hd, hw, hi => by
  show b25_2 pu L (l25_2 pu L w) last ⟨l.length,f,iLI l⟩ (Int.ofNat l.length) (Int.ofNat i) n ⟨m',f',l'⟩=_
  obtain⟨hd2,hi2,_⟩:=dropI_next hd
  have hr:(x::r).length=r.length+1:=rfl
  have hlt:Nat.blt i l.length=true:=by rw[blt_eq];simp;omega
  have ih:=check_loop pu L (n:=n) hl f f' l' m' r w (i+1) x hd2 (by omega) (by omega)
  unfold b25_2
  rw[ilt_nat,hlt,bb_true,show toN (Int.ofNat i)=some i from rfl,oo_some]
  show bb (an (Nat.blt i l.length) true) (oo (nthL (iLI l) (i*1)) none _) none=_
  rw[hlt,show an true true=true from rfl,bb_true,iLI_get hd,oo_some,show ∀ z,toI .i64 (IV z)=some z from fun _=>rfl,oo_some]
  show bb (ilt x 0) (bb true (some (IV 2)) _) (bb (nt (ilt x n)) (some (IV 2)) (bb (nt (ilt last x)) (some (IV 7)) (l25_2 pu L w x ⟨l.length,f,iLI l⟩ (Int.ofNat l.length) (wrapF .i64 (Int.add (Int.ofNat i) (1:Int))) n ⟨m',f',l'⟩)))=some (IV (bif ilt x 0 then 2 else bif nt (ilt x n) then 2 else bif nt (ilt last x) then 7 else chk n r x))
  rw[wrapS i (by omega),ih]
  cases ilt x 0 <;> cases nt (ilt x n) <;> cases nt (ilt last x) <;> rfl
theorem p25 (k:Nat) (args:List Value):puN (k+1) 25 args=m25 (puN k) L args:=by kernel_rfl
theorem pu_check (k f:Nat) (n:Int) {l:List Int} (hl:l.length < 900000):puN (k+1) 25 [.agg ⟨[IV n,slI f l]⟩]=some (IV (checkI n l)):=by
 rw[p25]
 show bb (ilt n 1) (m25_0 (puN k) L true n ⟨l.length,f,iLI l⟩) (m25_0 (puN k) L (ilt 21 n) n ⟨l.length,f,iLI l⟩)=_
 have h:=check_loop (puN k) L (n:=n) hl f f (iLI l) l.length l L 0 (-1) List.drop_zero (by show _ < 1000000;omega) (by omega)
 have h0:∀ b,m25_0 (puN k) L b n ⟨l.length,f,iLI l⟩=some (IV (bif b then 1 else bif Nat.blt 6 l.length then 3 else chk n l (-1))):=fun b=>by
  show bb b (some (IV 1)) (bb (ilt (6:Int) (Int.ofNat l.length)) (some (IV 3)) (l25_2 (puN k) L L (-1:Int) ⟨l.length,f,iLI l⟩ (Int.ofNat l.length) (0:Int) n ⟨l.length,f,iLI l⟩))=_
  have h:l25_2 (puN k) L L (-1:Int) ⟨l.length,f,iLI l⟩ (Int.ofNat l.length) (0:Int) n ⟨l.length,f,iLI l⟩=some (IV (chk n l (-1))):=h
  rw[h,show (6:Int)=Int.ofNat 6 from rfl,ilt_nat]
  cases b <;> cases Nat.blt 6 l.length <;> rfl
 rw[h0,h0]
 unfold checkI
 cases ilt n 1 <;> cases ilt 21 n <;> rfl
theorem made_loop (pu:PureF) (L n:Nat) {l:List Nat} (hl:∀ x∈l,x < 31) (hl2:l.length < 900000) (f:Nat) (a b:Int):∀ (r:List Nat) (w i z:Nat),l.drop i=r→r.length < w→i≤l.length→z < 2 ^ 31 →
 l96_1 pu L w ⟨l.length,f,vL l⟩ (Int.ofNat l.length) (Int.ofNat i) a b (Int.ofNat n) (Int.ofNat z)=some (tv n (setOf (fun p=>p) r z))
 | _,0,_,_,_,h,_,_=>by omega
 | [], w + 1, i, z, hd, _, hi, _ => by
  show b96_1 pu L (l96_1 pu L w) ⟨l.length,f,vL l⟩ (Int.ofNat l.length) (Int.ofNat i) a b (Int.ofNat n) (Int.ofNat z)=_
  have:l.length≤i:=List.drop_eq_nil_iff.1 hd
  unfold b96_1
  rw[ilt_nat,show Nat.blt i l.length=false from by rw[blt_eq];simp;omega];rfl
 | p :: r, w + 1, i, z, hd, hw, hi, hz => by
  show b96_1 pu L (l96_1 pu L w) ⟨l.length,f,vL l⟩ (Int.ofNat l.length) (Int.ofNat i) a b (Int.ofNat n) (Int.ofNat z)=_
  obtain⟨hd2,hi2,hb'⟩:=drop_next hd
  have hp:=hl p hb'
  have hr:(p::r).length=r.length+1:=rfl
  have hlt:Nat.blt i l.length=true:=by rw[blt_eq];simp;omega
  have hk:2 ^ p < 2 ^ 31:=Nat.pow_lt_pow_right (by omega) hp
  have hz2:z ||| 2 ^ p < 2 ^ 31:=Nat.or_lt_two_pow hz hk
  have ih:=made_loop pu L n hl hl2 f a b r w (i+1) _ hd2 (by omega) (by omega) hz2
  unfold b96_1
  rw[ilt_nat,hlt,bb_true,show toN (Int.ofNat i)=some i from rfl,oo_some]
  show bb (an (Nat.blt i l.length) true) (oo (nthL (vL l) (i*1)) none _) none=_
  rw[hlt,show an true true=true from rfl,bb_true,vL_get hd,oo_some,show toI .i64 (IV (Int.ofNat p))=some (Int.ofNat p) from rfl,oo_some,show toN (Int.ofNat p)=some p from rfl,oo_some,shl32 (by omega),aor32 (by omega) (by omega),wrapS i (by omega),ih];rfl
theorem p96 (k:Nat) (args:List Value):puN (k+1) 96 args=m96 (puN k) L args:=by kernel_rfl
theorem pu_made (k n f:Nat) {l:List Nat} (hl:∀ x∈l,x < 31) (hl2:l.length < 900000):puN (k+1) 96 [IV (Int.ofNat n),Sl.v 1 ⟨l.length,f,vL l⟩]=some (tv n (bitsOf l)):=by
 rw[p96]
 exact made_loop (puN k) L n hl hl2 f 0 0 l L 0 0 List.drop_zero (by show _ < 1000000;omega) (by omega) (by omega)
theorem p61 (k:Nat) (args:List Value):puN (k+1) 61 args=m61 (puN k) L args:=by kernel_rfl
theorem pu_opened (k f:Nat) {n:Nat} {l:List Nat} (hn0:0 < n) (hn:n≤21) (hl:l.length≤6) (h1:l.Pairwise (· < ·)) (h2:∀ x∈l,x < n):puN (k+2) 61 [.agg ⟨[IV (Int.ofNat n),Sl.v 1 ⟨l.length,f,vL l⟩]⟩]=some (tup2 (tv n (bitsOf l)) (IV 0)):=by
 rw[p61]
 show oo (puN (k+1) 25 [.agg ⟨[IV (Int.ofNat n),Sl.v 1 ⟨l.length,f,vL l⟩]⟩]) none _=_
 have hc:=pu_check k f (Int.ofNat n) (l:=l.map Int.ofNat) (by simp;omega)
 rw[checkI_ok hn0 hn hl h1 h2] at hc
 rw[show Sl.v 1 ⟨l.length,f,vL l⟩=slI f (l.map Int.ofNat) from by unfold slI;rw[vL_iLI,List.length_map],hc,oo_some]
 show oo (puN (k+1) 96 [IV (Int.ofNat n),slI f (l.map Int.ofNat)]) none _=_
 have hm:=pu_made k n f (l:=l) (fun x hx=>by have:=h2 x hx;omega) (by omega)
 rw[show slI f (l.map Int.ofNat)=Sl.v 1 ⟨l.length,f,vL l⟩ from by unfold slI;rw[vL_iLI,List.length_map],hm];rfl
end Go.RgP
