/- Words. -/
import Derived.Test.YtenlanbdolnhhaaRgJT3x

set_option maxRecDepth 100000
set_option maxHeartbeats 4000000
namespace Go.RgP
open Go Go.Sp Go.RgJM
noncomputable def slv (l:List Nat):Value:=Sl.v 1 ⟨l.length,0,vL l⟩
def U (s:Nat):Value:=.int .u32 (Int.ofNat s)
noncomputable def seaV (n:Nat) (l:List Nat):Value:=.agg ⟨[IV (Int.ofNat n),slv l]⟩
theorem vL_snoc (q:List Nat) (p:Nat):appL (dropL 0 (vL q)) [.int .i64 (Int.ofNat p)]=vL (q++[p]):=by
 rw[appL_eq,dropL_eq,List.drop_zero];unfold vL;rw[List.map_append];rfl
theorem grow_vL {q:List Nat} {c:Nat} (hq:q.length≤2000) (hc:c / 2=q.length) (hc2:c % 2=0):growC 1 8 q.length c 1 (vL q)=true:=by
 unfold growC roomy
 rw[len_eq,vL_len,hc,hc2]
 rw[show Nat.ble ((4*(q.length+1)+4096)*8) 281474976710656=true from Nat.ble_eq_true_of_le (by omega),show Nat.ble (q.length+1) q.length=false from by rw[ble_eq];simp,show Nat.ble (0+q.length*1) q.length=true from Nat.ble_eq_true_of_le (by omega),show Nat.beq (0+q.length*1) q.length=true from by simp]
 rfl
theorem fin_vL (q:List Nat):bb (an (Nat.ble (0+q.length*1) (len (vL q))) (allL closed1 (takeL (q.length*1) (dropL 0 (vL q))))) (some (Sl.v 1 (Sl.mk q.length 0 (takeL (q.length*1) (dropL 0 (vL q)))))) none=some (slv q):=by
 have e1:takeL (q.length*1) (dropL 0 (vL q))=vL q:=by
  rw[takeL_eq,dropL_eq,List.drop_zero,Nat.mul_one,←vL_len q,List.take_length]
 rw[e1,vL_closed,len_eq,vL_len,show Nat.ble (0+q.length*1) q.length=true from Nat.ble_eq_true_of_le (by omega)];rfl
theorem rem2 {n:Nat} (hn:0 < n) (hn2:n < 1000) {x:Int} (h1:-1000000000 < x) (h2:x < 1000000000):Int.tmod (wrapF .i64 (Int.add (Int.tmod (wrapF .i64 x) (Int.ofNat n)) (Int.ofNat n))) (Int.ofNat n)=Int.ofNat (plc n x):=by
 rw[wrapI x (by omega) (by omega)]
 show Int.tmod (wrapF .i64 (Int.tmod x (n:Int)+(n:Int))) (n:Int)=((plc n x:Nat):Int)
 have hp:(0:Int) < (n:Int):=by omega
 have g1:=Int.tmod_lt_of_pos x hp
 have g2:-(n:Int) < Int.tmod x n:=by
  have:=Int.lt_tmod_of_pos x hp;omega
 rw[wrapI _ (by omega) (by omega),Int.tmod_eq_emod_of_nonneg (by omega),plc_cast hn]
 have h3:Int.tmod x (n:Int)+(n:Int)=x+(n:Int)*(1 - Int.tdiv x n):=by
  have:=Int.mul_tdiv_add_tmod x (n:Int)
  rw[Int.mul_sub];omega
 rw[h3,Int.add_mul_emod_self_left]
theorem marks_len {n s:Nat}:(marksN n s).length≤n:=markF_len s n 0
def iLI (l:List Int):List Value:=l.map IV
theorem vL_iLI (l:List Nat):vL l=iLI (l.map Int.ofNat):=by unfold vL iLI;rw[List.map_map];rfl
theorem iLI_get {l:List Int} {i:Nat} {b:Int} {r:List Int} (h:l.drop i=b::r):nthL (iLI l) (i*1)=some (IV b):=by
 rw[nthL_eq,Nat.mul_one]
 have:l[i]?=some b:=by
  have:=congrArg List.head? h
  rw[List.head?_drop] at this;exact this
 unfold iLI
 rw[List.getElem?_map,this];rfl
theorem dropI_next {l:List Int} {i:Nat} {b:Int} {r:List Int} (h:l.drop i=b::r):l.drop (i+1)=r∧i < l.length∧b∈l:=by
 refine⟨?_,?_,?_⟩
 ·rw[←List.drop_drop,h];rfl
 ·have:=congrArg List.length h
  simp at this;omega
 ·have:b∈l.drop i:=by rw[h];exact List.mem_cons_self
  exact List.mem_of_mem_drop this
noncomputable def chk (n:Int):List Int→Int→Int
 | [],_=>0
 | m::r,last=>bif ilt m 0 then 2 else bif nt (ilt m n) then 2 else bif nt (ilt last m) then 7 else chk n r m
noncomputable def checkI (n:Int) (l:List Int):Int:=bif ilt n 1 then 1 else bif ilt 21 n then 1 else bif Nat.blt 6 l.length then 3 else chk n l (-1)
noncomputable def slI (f:Nat) (l:List Int):Value:=Sl.v 1 ⟨l.length,f,iLI l⟩
theorem slv_slI (l:List Nat):slv l=slI 0 (l.map Int.ofNat):=by unfold slv slI;rw[vL_iLI,List.length_map]
theorem map_ofNat_inj {a b:List Nat}:a.map Int.ofNat=b.map Int.ofNat↔a=b:=by
 constructor
 ·intro h
  have:=congrArg (List.map Int.toNat) h
  simpa [List.map_map,Function.comp_def] using this
 ·rintro rfl;rfl
theorem chk_ok {n:Nat}:∀ {m:List Nat} {last:Int},-1≤last→m.Pairwise (· < ·)→(∀ x∈m,x < n)→(∀ x∈m,last < (x:Int))→chk (Int.ofNat n) (m.map Int.ofNat) last=0
 | [],_,_,_,_,_=>rfl
 | x :: m, last, hl, h1, h2, h3 => by
  obtain⟨p1,p2⟩:=List.pairwise_cons.1 h1
  have a1:=h2 x List.mem_cons_self
  have a2:=h3 x List.mem_cons_self
  show (bif ilt (x:Int) 0 then (2:Int) else bif nt (ilt (x:Int) (n:Int)) then 2 else bif nt (ilt last (x:Int)) then 7 else chk (Int.ofNat n) (m.map Int.ofNat) (x:Int))=0
  rw[ilt_eq,ilt_eq,ilt_eq,decide_eq_false (show ¬ (x:Int) < 0 by omega),decide_eq_true (show (x:Int) < (n:Int) by omega),decide_eq_true a2]
  exact chk_ok (by omega) p2 (fun y hy=>h2 y (List.mem_cons_of_mem _ hy)) fun y hy=>by have:=p1 y hy;omega
theorem checkI_ok {n:Nat} {m:List Nat} (hn0:0 < n) (hn:n≤21) (hl:m.length≤6) (h1:m.Pairwise (· < ·)) (h2:∀ x∈m,x < n):checkI (Int.ofNat n) (m.map Int.ofNat)=0:=by
 show (bif ilt (Int.ofNat n) (Int.ofNat 1) then (1:Int) else bif ilt (Int.ofNat 21) (Int.ofNat n) then 1 else bif Nat.blt 6 (m.map Int.ofNat).length then 3 else chk (Int.ofNat n) (m.map Int.ofNat) (-1))=0
 rw[ilt_nat,ilt_nat,blt_eq,blt_eq,blt_eq,List.length_map,decide_eq_false (by omega),decide_eq_false (by omega),decide_eq_false (by omega)]
 exact chk_ok (last:=-1) (Int.le_refl _) h1 h2 fun x _=>by omega
def bitsOf (l:List Nat):Nat:=setOf (fun p=>p) l 0
theorem bitsOf_bit (l:List Nat) (q:Nat):(bitsOf l).testBit q=decide (q∈l):=by
 unfold bitsOf
 rw[setOf_bit,Nat.zero_testBit,Bool.false_or,Bool.eq_iff_iff]
 simp only[List.any_eq_true,decide_eq_true_eq]
 exact⟨fun ⟨p,hp,e⟩=>e ▸ hp,fun h=>⟨q,h,rfl⟩⟩
theorem bitsOf_lt {n:Nat} {l:List Nat} (h:∀ x∈l,x < n):bitsOf l < 2 ^ n:=setOf_lt _ (Nat.two_pow_pos n) h
theorem marks_bitsOf {n:Nat} (hn:n≤31) {l:List Nat} (h1:l.Pairwise (· < ·)) (h2:∀ x∈l,x < n):marksN n (bitsOf l)=l:=by
 have h:=lt32 hn (bitsOf_lt h2)
 refine sorted_ext (marks_sorted h) h1 fun x=>?_
 rw[mem_marks h,bitsOf_bit,decide_eq_true_eq]
 exact⟨fun h=>h.2,fun h=>⟨h2 x h,h⟩⟩
theorem bitsOf_marks {n s:Nat} (hn:n≤31) (hs:s < 2 ^ n):bitsOf (marksN n s)=s:=by
 have hs32:=lt32 hn hs
 refine set_ext (n:=n) (bitsOf_lt fun x hx=>((mem_marks hs32).1 hx).1) hs fun q hq=>?_
 rw[bitsOf_bit,Bool.eq_iff_iff,decide_eq_true_eq,mem_marks hs32]
 exact⟨fun h=>h.2,fun h=>⟨hq,h⟩⟩
noncomputable def tup2 (a b:Value):Value:=.tuple ⟨[a,b]⟩
structure Good (n:Nat) (l:List Nat):Prop where
 pos:0 < n
 le:n≤21
 few:l.length≤6
 up:l.Pairwise (· < ·)
 lt:∀ x∈l,x < n
noncomputable def seaF (n f:Nat) (l:List Nat):Value:=.agg ⟨[IV (Int.ofNat n),Sl.v 1 ⟨l.length,f,vL l⟩]⟩
theorem dists_len (n:Nat) (l:List Nat):(dists n l).length=n - 1:=by unfold dists;simp
theorem dists_get {n:Nat} {l:List Nat} {i:Nat} (hi:i < n - 1):(dists n l)[i]?=some (cntD n l (i+1)):=by unfold dists;simp[hi]
theorem Good.lt32 {n:Nat} {l:List Nat} (h:Good n l):bitsOf l < 4294967296:=Go.RgP.lt32 (n:=n) (by have:=h.le;omega) (bitsOf_lt h.lt)
theorem Good.marks {n:Nat} {l:List Nat} (h:Good n l):marksN n (bitsOf l)=l:=marks_bitsOf (by have:=h.le;omega) h.up h.lt
theorem pu_dists (k:Nat) {n:Nat} {l:List Nat} (h:Good n l):puN (k+4) 74 [tv n (bitsOf l)]=some (slv (dists n l)):=by
 have h2:=h.le
 have:=pu_dist k (n:=n) (s:=bitsOf l) h.pos (by omega)
 rw[distN_eq h.lt32,h.marks] at this
 rw[this];unfold slv;rw[dists_len]
end Go.RgP
set_option maxRecDepth 100000
set_option maxHeartbeats 2000000
namespace Go.RgP
open Go Go.Sp
def lexB:List Nat→List Nat→Bool
 | [],[]=>false
 | [],_::_=>true
 | _::_,[]=>false
 | x::a,y::b=>bif Nat.beq x y then lexB a b else Nat.blt x y
theorem lexB_cons (x y:Nat) (a b:List Nat):lexB (x::a) (y::b)=(bif Nat.beq x y then lexB a b else Nat.blt x y):=rfl
theorem lexB_irr:∀ a:List Nat,lexB a a=false
 | []=>rfl
 | x::a=>by rw[lexB_cons,Nat.beq_refl];exact lexB_irr a
theorem lexB_trans:∀ {a b c:List Nat},lexB a b=true→lexB b c=true→lexB a c=true
 | [],[],_,h,_=>by cases h
 | [],_::_,[],_,h=>by cases h
 | [],_::_,_::_,_,_=>rfl
 | _::_,[],_,h,_=>by cases h
 | _::_,_::_,[],_,h=>by cases h
 | x :: a, y :: b, z :: c, h, h' => by
  rw[lexB_cons,beq_dec,blt_eq] at *
  by_cases h1:x=y
  ·by_cases h2:y=z
   ·rw[decide_eq_true h1] at h;rw[decide_eq_true h2] at h'
    rw[decide_eq_true (h1.trans h2)]
    exact lexB_trans (show lexB a b=true from h) (show lexB b c=true from h')
   ·rw[decide_eq_false h2] at h'
    rw[decide_eq_false (by omega)]
    have:y < z:=of_decide_eq_true h'
    exact decide_eq_true (show x < z by omega)
  ·rw[decide_eq_false h1] at h
   have h3:x < y:=of_decide_eq_true h
   by_cases h2:y=z
   ·rw[decide_eq_false (show ¬ x=z by omega)]
    exact decide_eq_true (show x < z by omega)
   ·rw[decide_eq_false h2] at h'
    have h4:y < z:=of_decide_eq_true h'
    rw[decide_eq_false (show ¬ x=z by omega)]
    exact decide_eq_true (show x < z by omega)
theorem lexB_tot:∀ {a b:List Nat},lexB a b=false→lexB b a=false→a=b
 | [],[],_,_=>rfl
 | [],_::_,h,_=>by cases h
 | _::_,[],_,h=>by cases h
 | x :: a, y :: b, h, h' => by
  rw[lexB_cons,beq_dec,blt_eq] at *
  by_cases h1:x=y
  ·rw[decide_eq_true h1] at h;rw[decide_eq_true h1.symm] at h'
   rw[h1,lexB_tot (show lexB a b=false from h) (show lexB b a=false from h')]
  ·rw[decide_eq_false h1] at h;rw[decide_eq_false (Ne.symm h1)] at h'
   have h2:¬ x < y:=of_decide_eq_false h
   have h3:¬ y < x:=of_decide_eq_false h'
   omega
def minL (b:List Nat) (cs:List (List Nat)):List Nat:=cs.foldl (fun b c=>bif lexB c b then c else b) b
def LeastIn (S:List Nat→Prop) (x:List Nat):Prop:=S x∧∀ c,S c→lexB c x=false
theorem LeastIn.uniq {S:List Nat→Prop} {x y:List Nat} (h:LeastIn S x) (h':LeastIn S y):x=y:=lexB_tot (h'.2 x h.1) (h.2 y h'.1)
theorem minL_least : ∀ (cs : List (List Nat)) (b : List Nat), LeastIn (fun c => c = b ∨ c ∈ cs) (minL b cs)
 | [], b => ⟨.inl rfl, fun c h => by
  rcases h with rfl | h
  ·exact lexB_irr _
  ·cases h⟩
 | c :: cs, b => by
  have h:=minL_least cs (bif lexB c b then c else b)
  show LeastIn _ (minL (bif lexB c b then c else b) cs)
  have hall:∀ x,x=b∨x∈c::cs→lexB x (minL (bif lexB c b then c else b) cs)=false:=by
   intro x hx
   have hb:lexB (bif lexB c b then c else b) (minL (bif lexB c b then c else b) cs)=false:=h.2 _ (.inl rfl)
   have key:∀ y,lexB (bif lexB c b then c else b) y=true∨y=(bif lexB c b then c else b)→lexB y (minL (bif lexB c b then c else b) cs)=false:=by
    intro y hy
    rcases hy with hy | rfl
    ·cases hlt:lexB y (minL (bif lexB c b then c else b) cs) with
     | false=>rfl
     | true=>have:=lexB_trans hy hlt;rw[hb] at this;cases this
    ·exact hb
   rcases hx with rfl | hx
   ·cases hc:lexB c x with
    | true=>exact hc ▸ key x (by rw[hc];exact .inl hc)
    | false=>exact hc ▸ key x (by rw[hc];exact .inr rfl)
   ·rcases List.mem_cons.1 hx with rfl | hx
    ·cases hc:lexB x b with
     | true=>exact hc ▸ key x (by rw[hc];exact .inr rfl)
     | false =>
      refine hc ▸ key x ?_
      rw[hc]
      cases hb2:lexB b x with
      | true=>exact .inl hb2
      | false=>exact .inr (lexB_tot hc hb2)
    ·exact h.2 x (.inr hx)
  refine⟨?_,hall⟩
  rcases h.1 with h1 | h1
  ·rw[h1]
   cases lexB c b with
   | true=>exact .inr List.mem_cons_self
   | false=>exact .inl rfl
  ·exact .inr (List.mem_cons_of_mem _ h1)
def turnsOf (n s:Nat) (c:List Nat):Prop:=∃ b,b < n∧c=marksN n (turnN n s b)
noncomputable def minT (n s:Nat):List Nat:=minL (marksN n (turnN n s 0)) ((List.range (n - 1)).map fun i=>marksN n (turnN n s (i+1)))
theorem minT_least {n s:Nat} (hn:0 < n):LeastIn (turnsOf n s) (minT n s):=by
 have h:=minL_least ((List.range (n - 1)).map fun i=>marksN n (turnN n s (i+1))) (marksN n (turnN n s 0))
 have e:∀ c,turnsOf n s c↔(c=marksN n (turnN n s 0)∨c∈(List.range (n - 1)).map fun i=>marksN n (turnN n s (i+1))):=fun c=>by
  constructor
  ·rintro⟨b,hb,rfl⟩
   cases b with
   | zero=>exact .inl rfl
   | succ b=>exact .inr (List.mem_map.2 ⟨b,List.mem_range.2 (by omega),rfl⟩)
  ·rintro(rfl | h)
   ·exact⟨0,hn,rfl⟩
   ·obtain⟨i,hi,rfl⟩:=List.mem_map.1 h
    exact⟨i+1,by have:=List.mem_range.1 hi;omega,rfl⟩
 exact⟨(e _).2 h.1,fun c hc=>h.2 c ((e c).1 hc)⟩
theorem turn_zero {n s:Nat} (hn0:0 < n) (hn:n≤31) (hs:s < 2 ^ n):turnN n s 0=s:=by
 refine set_ext turn_lt hs fun q hq=>?_
 rw[turn_bit hn hs hn0,decide_eq_true hq,Bool.true_and,Nat.sub_zero,Nat.add_mod_right,Nat.mod_eq_of_lt hq]
theorem turn_turn {n s a b:Nat} (hn:n≤31) (hs:s < 2 ^ n) (ha:a < n) (hb:b < n):turnN n (turnN n s a) b=turnN n s ((a+b) % n):=by
 refine set_ext turn_lt turn_lt fun q hq=>?_
 have h1:(q+(n - b)) % n < n:=Nat.mod_lt _ (by omega)
 rw[turn_bit hn turn_lt hb,turn_bit hn hs ha,turn_bit hn hs (Nat.mod_lt _ (by omega)),decide_eq_true hq,decide_eq_true h1,Bool.true_and,Bool.true_and,Bool.true_and]
 congr 1
 have e1:(q+(n - b)) % n=if b≤q then q - b else q+(n - b):=by
  split
  ·rw[show q+(n - b)=(q - b)+n by omega,Nat.add_mod_right,Nat.mod_eq_of_lt (by omega)]
  ·exact Nat.mod_eq_of_lt (by omega)
 rw[mod_add ha hb,e1]
 have h2:∀ x y:Nat,x < n+n→y < n+n→(x=y∨x=y+n∨y=x+n)→x % n=y % n:=by
  intro x y _ _ h
  rcases h with rfl | rfl | rfl
  ·rfl
  ·rw[Nat.add_mod_right]
  ·rw[Nat.add_mod_right]
 apply h2 <;> (repeat' split) <;> omega
noncomputable def fstep (n s best p:Nat):Nat:=bif !best.testBit 0 || lexB (marksN n (turnN n s (plc n (-(p:Int))))) (marksN n best) then turnN n s (plc n (-(p:Int))) else best
noncomputable def firstN (n s:Nat):Nat:=(marksN n s).foldl (fstep n s) s
theorem neg_plc {n p:Nat} (hn:0 < n) (hp:p < n):plc n (-(p:Int))=(n - p) % n:=by
 have e:(-(p:Int))=(((n - p:Nat)):Int)+(n:Int)*(-1):=by omega
 rw[←plc_nat (n:=n) (n - p),e]
 unfold plc
 rw[Int.add_mul_emod_self_left]
theorem turn_neg_zero {n s p:Nat} (hn0:0 < n) (hn:n≤31) (hs:s < 2 ^ n) (hp:p < n):(turnN n s (plc n (-(p:Int)))).testBit 0=s.testBit p:=by
 rw[turn_bit hn hs (plc_lt hn0 _),decide_eq_true hn0,Bool.true_and,neg_plc hn0 hp]
 congr 1
 by_cases h:p=0
 ·subst h;rw[Nat.sub_zero,Nat.mod_self,Nat.sub_zero,Nat.zero_add,Nat.mod_self]
 ·rw[Nat.mod_eq_of_lt (show n - p < n by omega),Nat.zero_add,Nat.mod_eq_of_lt (by omega)];omega
theorem fold_inv {n s:Nat} (hn0:0 < n) (hn:n≤31) (hs:s < 2 ^ n):∀ (r:List Nat) (best:Nat) (S:List Nat),(∀ p∈r,p < n∧s.testBit p=true)→(∃ b,b < n∧best=turnN n s b)→best.testBit 0=true→(∀ p∈S,lexB (marksN n (turnN n s (plc n (-(p:Int))))) (marksN n best)=false) →
 (∃ b,b < n∧r.foldl (fstep n s) best=turnN n s b)∧(r.foldl (fstep n s) best).testBit 0=true∧∀ p,p∈S∨p∈r→lexB (marksN n (turnN n s (plc n (-(p:Int))))) (marksN n (r.foldl (fstep n s) best))=false
 | [],best,S,_,h1,h2,h3=>⟨h1,h2,fun p hp=>h3 p (hp.resolve_right (by simp))⟩
 | p :: r, best, S, hr, h1, h2, h3 => by
  obtain⟨hp,hps⟩:=hr p List.mem_cons_self
  have e:fstep n s best p=bif lexB (marksN n (turnN n s (plc n (-(p:Int))))) (marksN n best) then turnN n s (plc n (-(p:Int))) else best:=by unfold fstep;rw[h2];rfl
  have key:(∃ b,b < n∧fstep n s best p=turnN n s b)∧(fstep n s best p).testBit 0=true∧∀ x∈p::S,lexB (marksN n (turnN n s (plc n (-(x:Int))))) (marksN n (fstep n s best p))=false:=by
   rw[e]
   cases hc:lexB (marksN n (turnN n s (plc n (-(p:Int))))) (marksN n best) with
   | true =>
    refine⟨⟨_,plc_lt hn0 _,rfl⟩,by show (turnN n s _).testBit 0=true;rw[turn_neg_zero hn0 hn hs hp];exact hps,fun x hx=>?_⟩
    rcases List.mem_cons.1 hx with rfl | hx
    ·exact lexB_irr _
    ·show lexB _ (marksN n (turnN n s (plc n (-(p:Int)))))=false
     cases hq:lexB (marksN n (turnN n s (plc n (-(x:Int))))) (marksN n (turnN n s (plc n (-(p:Int))))) with
     | false=>rfl
     | true=>have:=lexB_trans hq hc;rw[h3 x hx] at this;cases this
   | false =>
    refine⟨h1,h2,fun x hx=>?_⟩
    rcases List.mem_cons.1 hx with rfl | hx
    ·exact hc
    ·exact h3 x hx
  obtain⟨k1,k2,k3⟩:=key
  obtain⟨a1,a2,a3⟩:=fold_inv hn0 hn hs r (fstep n s best p) (p::S) (fun x hx=>hr x (List.mem_cons_of_mem _ hx)) k1 k2 k3
  refine⟨a1,a2,fun x hx=>a3 x ?_⟩
  rcases hx with hx | hx
  ·exact .inl (List.mem_cons_of_mem _ hx)
  ·rcases List.mem_cons.1 hx with rfl | hx
   ·exact .inl List.mem_cons_self
   ·exact .inr hx
theorem head_zero {n s:Nat} (hs:s < 4294967296) (hn:0 < n) (h0:s.testBit 0=true):∃ r,marksN n s=0::r:=by
 have hm:0∈marksN n s:=(mem_marks hs).2 ⟨hn,h0⟩
 have hp:=marks_sorted (n:=n) hs
 cases hl:marksN n s with
 | nil=>rw[hl] at hm;cases hm
 | cons x r =>
  rw[hl] at hm hp
  rcases List.mem_cons.1 hm with rfl | h
  ·exact⟨r,rfl⟩
  ·have:=(List.pairwise_cons.1 hp).1 0 h;omega
theorem first_min {n s:Nat} (hn0:0 < n) (hn:n≤21) (hs:s < 2 ^ n):marksN n (firstN n s)=minT n s∧firstN n s < 2 ^ n:=by
 have hs32:=lt32 (n:=n) (by omega) hs
 have hmem:∀ p∈marksN n s,p < n∧s.testBit p=true:=fun p hp=>(mem_marks hs32).1 hp
 cases hl:marksN n s with
 | nil =>
  have hz:s=0:=by
   have:=bitsOf_marks (n:=n) (by omega) hs
   rw[hl] at this;exact this.symm
  have e:firstN n s=s:=by unfold firstN;rw[hl];rfl
  rw[e]
  refine⟨?_,hs⟩
  refine LeastIn.uniq (S:=turnsOf n s) ⟨⟨0,hn0,by rw[turn_zero hn0 (by omega) hs]⟩,?_⟩ (minT_least hn0)
  rintro c ⟨b,hb,rfl⟩
  have:turnN n s b=s:=by
   refine set_ext turn_lt hs fun q hq=>?_
   rw[turn_bit (by omega) hs hb,hz];simp
  rw[this];exact lexB_irr _
 | cons p r =>
  have hp:=hmem p (by rw[hl];exact List.mem_cons_self)
  have hstep:fstep n s s p=(bif !s.testBit 0 || lexB (marksN n (turnN n s (plc n (-(p:Int))))) (marksN n s) then turnN n s (plc n (-(p:Int))) else s):=rfl
  have k:(∃ b,b < n∧fstep n s s p=turnN n s b)∧(fstep n s s p).testBit 0=true∧∀ x∈[p],lexB (marksN n (turnN n s (plc n (-(x:Int))))) (marksN n (fstep n s s p))=false:=by
   rw[hstep]
   cases hc:(!s.testBit 0 || lexB (marksN n (turnN n s (plc n (-(p:Int))))) (marksN n s)) with
   | true =>
    refine⟨⟨_,plc_lt hn0 _,rfl⟩,by show (turnN n s _).testBit 0=true;rw[turn_neg_zero hn0 (by omega) hs hp.1];exact hp.2,fun x hx=>?_⟩
    have:x=p:=by simpa using hx
    subst this;exact lexB_irr _
   | false =>
    rw[Bool.or_eq_false_iff] at hc
    refine⟨⟨0,hn0,(turn_zero hn0 (by omega) hs).symm⟩,by simpa using hc.1,fun x hx=>?_⟩
    have:x=p:=by simpa using hx
    subst this;exact hc.2
  obtain⟨k1,k2,k3⟩:=k
  obtain⟨⟨b,hb,hbe⟩,a2,a3⟩:=fold_inv hn0 (by omega) hs r (fstep n s s p) [p] (fun x hx=>hmem x (by rw[hl];exact List.mem_cons_of_mem _ hx)) k1 k2 k3
  have e:firstN n s=r.foldl (fstep n s) (fstep n s s p):=by unfold firstN;rw[hl];rfl
  rw[←e] at hbe a2 a3
  have hlt:firstN n s < 2 ^ n:=by rw[hbe];exact turn_lt
  refine⟨LeastIn.uniq (S:=turnsOf n s) ⟨⟨b,hb,by rw[hbe]⟩,?_⟩ (minT_least hn0),hlt⟩
  rintro c ⟨d,hd,rfl⟩
  have ht32:=lt32 (n:=n) (s:=turnN n s d) (by omega) turn_lt
  cases h0:(turnN n s d).testBit 0 with
  | true =>
   rw[turn_bit (by omega) hs hd,decide_eq_true hn0,Bool.true_and,Nat.zero_add] at h0
   have hx:(n - d) % n < n:=Nat.mod_lt _ hn0
   have hin:(n - d) % n∈marksN n s:=(mem_marks hs32).2 ⟨hx,h0⟩
   have hback:plc n (-(((n - d) % n:Nat):Int))=d:=by
    rw[neg_plc hn0 hx]
    by_cases hd0:d=0
    ·subst hd0;rw[Nat.sub_zero,Nat.mod_self,Nat.sub_zero,Nat.mod_self]
    ·rw[Nat.mod_eq_of_lt (show n - d < n by omega),Nat.mod_eq_of_lt (by omega)];omega
   have := a3 ((n - d) % n) (by
    rw[hl] at hin
    rcases List.mem_cons.1 hin with h | h
    ·exact .inl (by rw[h];exact List.mem_cons_self)
    ·exact .inr h)
   rw[hback] at this;exact this
  | false =>
   obtain⟨r0,hr0⟩:=head_zero (lt32 (n:=n) (by omega) hlt) hn0 a2
   rw[hr0]
   have hm:(p+d) % n∈marksN n (turnN n s d):=by
    have hlt2:(p+d) % n < n:=Nat.mod_lt _ hn0
    refine(mem_marks ht32).2 ⟨hlt2,?_⟩
    rw[turn_bit (by omega) hs hd,decide_eq_true hlt2,Bool.true_and]
    by_cases hd0:d=0
    ·subst hd0;rw[Nat.add_zero,Nat.sub_zero,Nat.mod_eq_of_lt hp.1,Nat.add_mod_right,Nat.mod_eq_of_lt hp.1];exact hp.2
    ·rw[add_back hp.1 (by omega) hd];exact hp.2
   cases hc:marksN n (turnN n s d) with
   | nil=>rw[hc] at hm;cases hm
   | cons y r1 =>
    have hy:y≠0:=fun e=>by
     have:y∈marksN n (turnN n s d):=by rw[hc];exact List.mem_cons_self
     have:=((mem_marks ht32).1 this).2
     rw[e,h0] at this;cases this
    rw[lexB_cons,beq_ne hy,blt_eq]
    show decide (y < 0)=false
    exact decide_eq_false (by omega)
end Go.RgP
set_option maxRecDepth 100000
set_option maxHeartbeats 2000000
namespace Go.RgP
open Go Go.Sp
theorem marks_inj {n s t:Nat} (hn:n≤31) (hs:s < 2 ^ n) (ht:t < 2 ^ n) (h:marksN n s=marksN n t):s=t:=by
 rw[←bitsOf_marks hn hs,h,bitsOf_marks hn ht]
theorem turn_back {n s a:Nat} (hn:n≤31) (hs:s < 2 ^ n) (ha:a < n):turnN n (turnN n s a) ((n - a) % n)=s:=by
 have h0:0 < n:=by omega
 rw[turn_turn hn hs ha (Nat.mod_lt _ h0)]
 have:(a+(n - a) % n) % n=0:=by
  by_cases h:a=0
  ·subst h;rw[Nat.sub_zero,Nat.mod_self,Nat.zero_mod]
  ·rw[Nat.mod_eq_of_lt (show n - a < n by omega),show a+(n - a)=n by omega,Nat.mod_self]
 rw[this,turn_zero h0 hn hs]
theorem minT_turn {n s a:Nat} (hn:n≤31) (hs:s < 2 ^ n) (ha:a < n):minT n (turnN n s a)=minT n s:=by
 have h0:0 < n:=by omega
 refine LeastIn.uniq (S:=turnsOf n s) ?_ (minT_least h0)
 have h:=minT_least (s:=turnN n s a) h0
 have hto:∀ c,turnsOf n s c→turnsOf n (turnN n s a) c:=by
  rintro c ⟨b,hb,rfl⟩
  refine⟨((n - a) % n+b) % n,Nat.mod_lt _ h0,?_⟩
  rw[←turn_turn hn turn_lt (Nat.mod_lt _ h0) hb,turn_back hn hs ha]
 refine⟨?_,fun c hc=>h.2 c (hto c hc)⟩
 obtain⟨b,hb,e⟩:=h.1
 exact⟨(a+b) % n,Nat.mod_lt _ h0,by rw[e,turn_turn hn hs ha hb]⟩
theorem cntD_perm {n:Nat} {l l':List Nat} (h:l.Perm l') (d:Nat):cntD n l d=cntD n l' d:=by
 unfold cntD
 have e:(fun a=>decide ((a+d) % n∈l))=fun a=>decide ((a+d) % n∈l'):=by
  funext a
  exact decide_eq_decide.2 h.mem_iff
 rw[e];exact h.countP_eq _
theorem good_marks {n t:Nat} (h0:0 < n) (hn:n≤21) (ht:t < 2 ^ n) (hf:(marksN n t).length≤6):Good n (marksN n t):=by
 have h:=lt32 (n:=n) (by omega) ht
 exact⟨h0,hn,hf,marks_sorted h,fun x hx=>((mem_marks h).1 hx).1⟩
end Go.RgP
set_option maxRecDepth 100000
set_option maxHeartbeats 4000000
namespace Go.RgP
open Go Go.Sp Go.RgJM
noncomputable def cmpN (a b:List Nat):Int:=bif lexB a b then -1 else bif lexB b a then 1 else 0
theorem p98 (k:Nat) (args:List Value):puN (k+1) 98 args=m98 (puN k) L args:=by kernel_rfl
theorem p92 (k:Nat) (args:List Value):puN (k+1) 92 args=m92 (puN k) L args:=by kernel_rfl
theorem pu_cmp (k x y:Nat):puN (k+2) 92 [IV (Int.ofNat x),IV (Int.ofNat y)]=some (IV (bif Nat.blt x y then -1 else bif Nat.blt y x then 1 else 0)):=by
 have h98:∀ z:Nat,puN (k+1) 98 [IV (Int.ofNat z)]=some (.bool false):=fun z=>by
  rw[p98]
  show some (Value.bool (nt (ieq (Int.ofNat z) (Int.ofNat z))))=_
  rw[ieq_nat,Nat.beq_refl];rfl
 rw[p92]
 show m92_ (puN (k+1)) L (Int.ofNat x) (Int.ofNat y)=_
 unfold m92_
 rw[h98,oo_some,show vBool (Value.bool false)=some false from rfl,oo_some,h98,oo_some,show vBool (Value.bool false)=some false from rfl,oo_some]
 show bb (ilt (Int.ofNat x) (Int.ofNat y)) (some (IV (-1))) (bb (ilt (Int.ofNat y) (Int.ofNat x)) (some (IV 1)) (some (IV 0)))=_
 rw[ilt_nat,ilt_nat]
 cases Nat.blt x y <;> cases Nat.blt y x <;> rfl
theorem cmp_loop (k:Nat) {a b:List Nat} (ha:a.length < 900000) (f1 f2:Nat):∀ (r r':List Nat) (w i:Nat),a.drop i=r→b.drop i=r'→r.length < w→i≤a.length→i≤b.length →
 l52_1 (puN (k+2)) L w ⟨a.length,f1,vL a⟩ ⟨b.length,f2,vL b⟩ ⟨a.length,f1,vL a⟩ (Int.ofNat a.length) (Int.ofNat i)=some (IV (cmpN r r'))
 | _,_,0,_,_,_,h,_,_=>by omega
 | [], r', w + 1, i, hd, hd', _, hi, hi' => by
  show b52_1 (puN (k+2)) L (l52_1 (puN (k+2)) L w) ⟨a.length,f1,vL a⟩ ⟨b.length,f2,vL b⟩ ⟨a.length,f1,vL a⟩ (Int.ofNat a.length) (Int.ofNat i)=_
  have h1:a.length≤i:=List.drop_eq_nil_iff.1 hd
  unfold b52_1
  rw[ilt_nat,show Nat.blt i a.length=false from by rw[blt_eq];simp;omega,bb_false]
  show bb (ilt (Int.ofNat a.length) (Int.ofNat b.length)) (some (IV (-1))) (some (IV 0))=_
  rw[ilt_nat,blt_eq]
  cases r' with
  | nil =>
   have h2:b.length≤i:=List.drop_eq_nil_iff.1 hd'
   rw[decide_eq_false (by omega)];rfl
  | cons y r' =>
   have:=(drop_next hd').2.1
   rw[decide_eq_true (by omega)];rfl
 | x :: r, r', w + 1, i, hd, hd', hw, hi, hi' => by
  show b52_1 (puN (k+2)) L (l52_1 (puN (k+2)) L w) ⟨a.length,f1,vL a⟩ ⟨b.length,f2,vL b⟩ ⟨a.length,f1,vL a⟩ (Int.ofNat a.length) (Int.ofNat i)=_
  obtain⟨hd2,hi2,_⟩:=drop_next hd
  have hr:(x::r).length=r.length+1:=rfl
  have hlt:Nat.blt i a.length=true:=by rw[blt_eq];simp;omega
  unfold b52_1
  rw[ilt_nat,hlt,bb_true,show toN (Int.ofNat i)=some i from rfl,oo_some]
  show bb (an (Nat.blt i a.length) true) (oo (nthL (vL a) (i*1)) none _) none=_
  rw[hlt,show an true true=true from rfl,bb_true,vL_get hd,oo_some,show ∀ z,toI .i64 (IV z)=some z from fun _=>rfl,oo_some]
  cases r' with
  | nil =>
   have h2:b.length≤i:=List.drop_eq_nil_iff.1 hd'
   show bb (nt (ilt (Int.ofNat i) (Int.ofNat b.length))) (some (IV 1)) _=_
   rw[ilt_nat,show Nat.blt i b.length=false from by rw[blt_eq];simp;omega];rfl
  | cons y r' =>
   obtain⟨hd3,hi3,_⟩:=drop_next hd'
   have hlt2:Nat.blt i b.length=true:=by rw[blt_eq];simp;omega
   have ih:=cmp_loop k ha f1 f2 r r' w (i+1) hd2 hd3 (by omega) (by omega) (by omega)
   show bb (nt (ilt (Int.ofNat i) (Int.ofNat b.length))) (some (IV 1)) (bb (an (Nat.blt i b.length) true) (oo (nthL (vL b) (i*1)) none fun v4808=>oo (toI .i64 v4808) none fun x4810=>oo (puN (k+2) 92 [IV (Int.ofNat x),IV x4810]) none fun v4816=>oo (toI .i64 v4816) none fun x4818=>bb (nt (ieq x4818 (0:Int))) (some (IV x4818)) (l52_1 (puN (k+2)) L w ⟨a.length,f1,vL a⟩ ⟨b.length,f2,vL b⟩ ⟨a.length,f1,vL a⟩ (Int.ofNat a.length) (wrapF .i64 (Int.add (Int.ofNat i) (1:Int))))) none)=_
   rw[ilt_nat,hlt2,show nt true=false from rfl,bb_false,show an true true=true from rfl,bb_true,vL_get hd',oo_some,show ∀ z,toI .i64 (IV z)=some z from fun _=>rfl,oo_some,pu_cmp,oo_some,show ∀ z,toI .i64 (IV z)=some z from fun _=>rfl,oo_some,wrapS i (by omega),ih]
   unfold cmpN
   rw[lexB_cons,lexB_cons,blt_eq,blt_eq,beq_dec,beq_dec]
   by_cases h1:x=y
   ·subst h1
    rw[decide_eq_true rfl,decide_eq_false (Nat.lt_irrefl x)];rfl
   ·rw[decide_eq_false h1,decide_eq_false (Ne.symm h1)]
    by_cases h2:x < y
    ·rw[decide_eq_true h2];rfl
    ·rw[decide_eq_false h2,decide_eq_true (show y < x by omega)];rfl
theorem p52 (k:Nat) (args:List Value):puN (k+1) 52 args=m52 (puN k) L args:=by kernel_rfl
theorem pu_compare (k f1 f2:Nat) {a b:List Nat} (ha:a.length < 900000):puN (k+3) 52 [Sl.v 1 ⟨a.length,f1,vL a⟩,Sl.v 1 ⟨b.length,f2,vL b⟩]=some (IV (cmpN a b)):=by
 rw[p52]
 exact cmp_loop k ha f1 f2 a b L 0 List.drop_zero List.drop_zero (by show _ < 1000000;omega) (by omega) (by omega)
theorem cmp_neg (a b:List Nat):ilt (cmpN a b) 0=lexB a b:=by
 unfold cmpN
 cases lexB a b with
 | true=>rfl
 | false=>cases lexB b a <;> rfl
end Go.RgP
set_option maxRecDepth 100000
set_option maxHeartbeats 4000000
namespace Go.RgP
open Go Go.Sp Go.RgJM
theorem on_any (pu:PureF) (L n s:Nat) (x:Int) (hn:0 < n) (hn2:n < 1000):m62 pu L [tv n s,IV x]=some (IV (Int.ofNat (plc n x))):=by
 show m62_ pu L (Int.ofNat n) (Int.ofNat s) x=_
 unfold m62_
 have e:ieq (Int.ofNat n) 0=false:=by rw[show (0:Int)=Int.ofNat 0 from rfl,ieq_nat];exact beq_ne (by omega)
 rw[e]
 show some (IV (Int.tmod (wrapF .i64 (Int.tmod x (n:Int)+(n:Int))) (n:Int)))=some (IV ((plc n x:Nat):Int))
 have hp:(0:Int) < (n:Int):=by omega
 have g1:=Int.tmod_lt_of_pos x hp
 have g2:-(n:Int) < Int.tmod x n:=by
  have:=Int.lt_tmod_of_pos x hp;omega
 rw[wrapI _ (by omega) (by omega),Int.tmod_eq_emod_of_nonneg (by omega),plc_cast hn]
 have h3:Int.tmod x (n:Int)+(n:Int)=x+(n:Int)*(1 - Int.tdiv x n):=by
  have:=Int.mul_tdiv_add_tmod x (n:Int)
  rw[Int.mul_sub];omega
 rw[h3,Int.add_mul_emod_self_left]
theorem pu_on2 (k:Nat) {n s:Nat} {x:Int} (hn:0 < n) (hn2:n≤60):puN (k+1) 62 [tv n s,IV x]=some (IV (Int.ofNat (plc n x))):=by
 rw[p62];exact on_any (puN k) L n s x hn (by omega)
theorem p65 (k:Nat) (args:List Value):puN (k+1) 65 args=m65 (puN k) L args:=by kernel_rfl
theorem pu_turned (k:Nat) {n s b:Nat} (hn:n≤21) (hs:s < 2 ^ n) (hb:b < n):puN (k+1) 65 [tv n s,IV (Int.ofNat b)]=some (tv n (turnN n s b)):=by
 rw[p65]
 show m65_ (puN k) L (Int.ofNat n) (Int.ofNat s) (Int.ofNat b)=_
 unfold m65_
 have hs32:=lt32 (by omega) hs
 have e1:wrapF .i64 (Int.sub (Int.ofNat n) (Int.ofNat b))=Int.ofNat (n - b):=by
  show wrapF .i64 ((n:Int) - (b:Int))=((n - b:Nat):Int)
  rw[wrapI _ (by omega) (by omega)];omega
 have e2:wrapF .u32 (Int.sub (shlI .u32 (1:Int) n) (1:Int))=Int.ofNat (2 ^ n - 1):=by
  have h1:2 ^ n < 4294967296:=Nat.lt_of_le_of_lt (Nat.pow_le_pow_right (by omega) hn) (by decide)
  have h2:=Nat.two_pow_pos n
  rw[shl32 (by omega),show Int.sub (Int.ofNat (2 ^ n)) 1=Int.ofNat (2 ^ n - 1) from by show ((2 ^ n:Nat):Int) - 1=((2 ^ n - 1:Nat):Int);omega]
  exact wrap32 (by omega)
 have e3:shlI .u32 (Int.ofNat s) b=Int.ofNat ((s*2 ^ b) % 4294967296):=by
  show wrapF .u32 (Int.ofNat (s*2 ^ (min b 32)))=_
  rw[Nat.min_eq_left (by omega)];rfl
 have h4:(s*2 ^ b) % 4294967296 < 4294967296:=Nat.mod_lt _ (by omega)
 have h5:s / 2 ^ (n - b) < 4294967296:=Nat.lt_of_le_of_lt (Nat.div_le_self _ _) hs32
 have h6:(s*2 ^ b) % 4294967296 ||| s / 2 ^ (n - b) < 4294967296:=Nat.or_lt_two_pow (n:=32) h4 h5
 have h7:2 ^ n - 1 < 4294967296:=by
  have h1:2 ^ n < 4294967296:=Nat.lt_of_le_of_lt (Nat.pow_le_pow_right (by omega) hn) (by decide)
  omega
 show oo (toN (wrapF .i64 (Int.sub (Int.ofNat n) (Int.ofNat b)))) none (fun k3348=>some (Value.agg ⟨[(.int .i64 (Int.ofNat n)),(.int .u32 (aand .u32 (aor .u32 (shlI .u32 (Int.ofNat s) b) (shrI .u32 (Int.ofNat s) k3348)) (wrapF .u32 (Int.sub (shlI .u32 (1:Int) n) (1:Int)))))]⟩))=_
 rw[e1,show ∀ j,toN (Int.ofNat j)=some j from fun _=>rfl,oo_some,e2,e3,shr32 hs32,aor32 h4 h5,aand32 h6 h7];rfl
end Go.RgP
set_option maxRecDepth 100000
set_option maxHeartbeats 4000000
namespace Go.RgP
open Go Go.Sp Go.RgJM
theorem p66 (k:Nat) (args:List Value):puN (k+1) 66 args=m66 (puN k) L args:=by kernel_rfl
theorem pu_seal (k:Nat) {n s:Nat} (hn:n≤60):puN (k+3) 66 [tv n s]=some (seaF n 0 (marksN n s)):=by
 rw[p66]
 show oo (puN (k+2) 80 [tv n s]) none _=_
 rw[pu_marks k hn];rfl
end Go.RgP
set_option maxRecDepth 100000
set_option maxHeartbeats 4000000
namespace Go.RgP
open Go Go.Sp Go.RgJM
theorem neg_wrap {p:Nat} (hp:p < 1000):wrapF .i64 (Int.sub (.ofNat 0) (Int.ofNat p)) = -(p:Int):=by
 show wrapF .i64 ((0:Int) - (p:Int))=_
 rw[wrapI _ (by omega) (by omega)];omega
theorem bit0 {s:Nat} (hs:s < 4294967296):ieq (aand .u32 (Int.ofNat s) (1:Int)) (0:Int) = !s.testBit 0:=by
 rw[show (1:Int)=Int.ofNat 1 from rfl,aand32 hs (by omega),show (0:Int)=Int.ofNat 0 from rfl,ieq_nat,Nat.and_one_is_mod,Nat.testBit_zero,beq_dec]
 by_cases h:s % 2=1
 ·rw[decide_eq_true h,h];rfl
 ·have:s % 2=0:=by omega
  rw[decide_eq_false h,this];rfl
theorem first_loop (k:Nat) {n s:Nat} (hn0:0 < n) (hn:n≤21) (hs:s < 2 ^ n) {l:List Nat} (hl:l.length≤60) (hln:∀ x∈l,x < n) (z1 z2:Int):∀ (r:List Nat) (w i best:Nat),l.drop i=r→r.length < w→i≤l.length→best < 2 ^ n →
 l68_1 (puN (k+3)) L w ⟨l.length,0,vL l⟩ (Int.ofNat l.length) (Int.ofNat i) (Int.ofNat n) (Int.ofNat s) z1 z2 (Int.ofNat n) (Int.ofNat best)=some (tv n (r.foldl (fstep n s) best))
 | _,0,_,_,_,h,_,_=>by omega
 | [], w + 1, i, best, hd, _, hi, _ => by
  show b68_1 (puN (k+3)) L (l68_1 (puN (k+3)) L w) ⟨l.length,0,vL l⟩ (Int.ofNat l.length) (Int.ofNat i) (Int.ofNat n) (Int.ofNat s) z1 z2 (Int.ofNat n) (Int.ofNat best)=_
  have:l.length≤i:=List.drop_eq_nil_iff.1 hd
  unfold b68_1
  rw[ilt_nat,show Nat.blt i l.length=false from by rw[blt_eq];simp;omega];rfl
 | p :: r, w + 1, i, best, hd, hw, hi, hb => by
  show b68_1 (puN (k+3)) L (l68_1 (puN (k+3)) L w) ⟨l.length,0,vL l⟩ (Int.ofNat l.length) (Int.ofNat i) (Int.ofNat n) (Int.ofNat s) z1 z2 (Int.ofNat n) (Int.ofNat best)=_
  obtain⟨hd2,hi2,hp⟩:=drop_next hd
  have hr:(p::r).length=r.length+1:=rfl
  have hlt:Nat.blt i l.length=true:=by rw[blt_eq];simp;omega
  have hpn:=hln p hp
  have hb32:=lt32 (n:=n) (by omega) hb
  have go:=fun b' hb'=>first_loop k hn0 hn hs hl hln z1 z2 r w (i+1) b' hd2 (by omega) (by omega) hb'
  have m3:∀ c,m68_3 (puN (k+3)) L (l68_1 (puN (k+3)) L w) ⟨l.length,0,vL l⟩ (Int.ofNat l.length) (Int.ofNat i) c (Int.ofNat n) (Int.ofNat s) z1 z2 (Int.ofNat n) (Int.ofNat best) (Int.ofNat n) (Int.ofNat (turnN n s (plc n (-(p:Int)))))=some (tv n (r.foldl (fstep n s) (bif c then turnN n s (plc n (-(p:Int))) else best))):=fun c=>by
   unfold m68_3 m68_2
   rw[wrapS i (by omega)]
   cases c with
   | true=>exact go _ turn_lt
   | false=>exact go _ hb
  unfold b68_1
  rw[ilt_nat,hlt,bb_true,show toN (Int.ofNat i)=some i from rfl,oo_some]
  show bb (an (Nat.blt i l.length) true) (oo (nthL (vL l) (i*1)) none _) none=_
  rw[hlt,show an true true=true from rfl,bb_true,vL_get hd,oo_some,show ∀ z,toI .i64 (IV z)=some z from fun _=>rfl,oo_some,neg_wrap (by omega)]
  show oo (puN (k+3) 62 [tv n s,IV (-(p:Int))]) none _=_
  rw[pu_on2 (k+2) hn0 (by omega),oo_some]
  show oo (puN (k+3) 65 [tv n s,IV (Int.ofNat (plc n (-(p:Int))))]) none _=_
  rw[pu_turned (k+2) hn hs (plc_lt hn0 _),oo_some]
  show bb (ieq (aand .u32 (Int.ofNat best) (1:Int)) (0:Int)) (m68_3 (puN (k+3)) L (l68_1 (puN (k+3)) L w) ⟨l.length,0,vL l⟩ (Int.ofNat l.length) (Int.ofNat i) true (Int.ofNat n) (Int.ofNat s) z1 z2 (Int.ofNat n) (Int.ofNat best) (Int.ofNat n) (Int.ofNat (turnN n s (plc n (-(p:Int)))))) (oo (puN (k+3) 80 [tv n (turnN n s (plc n (-(p:Int))))]) none fun v6104=>oo (toSl 1 v6104) none fun s6106=>oo (puN (k+3) 80 [tv n best]) none fun v6108=>oo (toSl 1 v6108) none fun s6110=>oo (puN (k+3) 52 [Sl.v 1 s6106,Sl.v 1 s6110]) none fun v6112=>oo (toI .i64 v6112) none fun x6114=>m68_3 (puN (k+3)) L (l68_1 (puN (k+3)) L w) ⟨l.length,0,vL l⟩ (Int.ofNat l.length) (Int.ofNat i) (ilt x6114 (0:Int)) (Int.ofNat n) (Int.ofNat s) z1 z2 (Int.ofNat n) (Int.ofNat best) (Int.ofNat n) (Int.ofNat (turnN n s (plc n (-(p:Int))))))=_
  have hlen:=marks_len (n:=n) (s:=turnN n s (plc n (-(p:Int))))
  rw[bit0 hb32,m3,pu_marks (k+1) (by omega),pu_marks (k+1) (by omega),oo_some,show ∀ sl:Sl,toSl 1 (Sl.v 1 sl)=some sl from fun _=>rfl,oo_some,oo_some,show ∀ sl:Sl,toSl 1 (Sl.v 1 sl)=some sl from fun _=>rfl,oo_some,pu_compare k 0 0 (by omega),oo_some,show ∀ z,toI .i64 (IV z)=some z from fun _=>rfl,oo_some,cmp_neg,m3]
  show _=some (tv n (r.foldl (fstep n s) (fstep n s best p)))
  unfold fstep
  cases best.testBit 0 <;> rfl
theorem p68 (k:Nat) (args:List Value):puN (k+1) 68 args=m68 (puN k) L args:=by kernel_rfl
theorem pu_first (k:Nat) {n s:Nat} (hn0:0 < n) (hn:n≤21) (hs:s < 2 ^ n):puN (k+4) 68 [tv n s]=some (tv n (firstN n s)):=by
 have hs32:=lt32 (n:=n) (by omega) hs
 have hlen:=marks_len (n:=n) (s:=s)
 rw[p68]
 show oo (puN (k+3) 80 [tv n s]) none _=_
 rw[pu_marks (k+1) (by omega),oo_some]
 exact first_loop k hn0 hn hs (by omega) (fun x hx=>((mem_marks hs32).1 hx).1) 0 0 (marksN n s) L 0 s List.drop_zero (by show _ < 1000000;omega) (by omega) hs
end Go.RgP
set_option maxRecDepth 100000
set_option maxHeartbeats 4000000
namespace Go.RgP
open Go Go.Sp Go.RgJM
def ext:Nat→Nat→Nat→List Nat→List (List Nat)
 | _,0,_,l=>[l]
 | 0,_+1,_,_=>[]
 | r+1,m+1,p,l=>ext r m (p+1) (l++[p])++ext r (m+1) (p+1) l
theorem ext_zero (r p:Nat) (l:List Nat):ext r 0 p l=[l]:=by cases r <;> rfl
theorem ext_short:∀ {r m:Nat},r < m→∀ (p:Nat) (l:List Nat),ext r m p l=[]
 | 0,0,h,_,_=>by omega
 | 0,m+1,_,_,_=>rfl
 | r+1,0,h,_,_=>by omega
 | r + 1, m + 1, h, p, l => by
  show ext r m (p+1) (l++[p])++ext r (m+1) (p+1) l=[]
  rw[ext_short (by omega),ext_short (by omega)];rfl
def cho:Nat→Nat→Nat
 | _,0=>1
 | 0,_+1=>0
 | r+1,m+1=>cho r m+cho r (m+1)
theorem ext_len:∀ (r m p:Nat) (l:List Nat),(ext r m p l).length=cho r m
 | 0,0,_,_=>rfl
 | r+1,0,_,_=>rfl
 | 0,m+1,_,_=>rfl
 | r + 1, m + 1, p, l => by
  show (ext r m (p+1) (l++[p])++ext r (m+1) (p+1) l).length=cho r m+cho r (m+1)
  rw[List.length_append,ext_len r m,ext_len r (m+1)]
theorem cho_le:∀ (m r:Nat),r≤21→m≤6→cho r m≤60000:=by
 have h:∀ m∈List.range 7,∀ r∈List.range 22,cho r m≤60000:=by decide
 intro m r h1 h2
 exact h m (List.mem_range.2 (by omega)) r (List.mem_range.2 (by omega))
structure Part (n p:Nat) (l:List Nat) (m:Nat):Prop where
 good:Good n l
 low:∀ x∈l,x < p
 few:l.length+m≤6
theorem Part.snoc {n p m:Nat} {l:List Nat} (h:Part n p l (m+1)) (hp:p < n):Part n (p+1) (l++[p]) m:=by
 have hf:=h.few
 refine⟨⟨h.good.pos,h.good.le,by simp;omega,?_,fun x hx=>?_⟩,fun x hx=>?_,by simp;omega⟩
 ·rw[List.pairwise_append]
  exact⟨h.good.up,List.pairwise_singleton _ _,fun a ha b hb=>by rw[List.mem_singleton.1 hb];exact h.low a ha⟩
 ·rcases List.mem_append.1 hx with hx | hx
  ·exact h.good.lt x hx
  ·rw[List.mem_singleton.1 hx];exact hp
 ·rcases List.mem_append.1 hx with hx | hx
  ·have:=h.low x hx;omega
  ·rw[List.mem_singleton.1 hx];omega
theorem Part.skip {n p m:Nat} {l:List Nat} (h:Part n p l m):Part n (p+1) l m:=⟨h.good,fun x hx=>by have:=h.low x hx;omega,h.few⟩
theorem part_nil {n m:Nat} (h0:0 < n) (hn:n≤21) (hm:m≤6):Part n 0 [] m:=⟨⟨h0,hn,by simp,.nil,fun x hx=>by (cases hx)⟩,fun x hx=>by (cases hx),by simpa using hm⟩
theorem ext_good {n:Nat}:∀ (r m p:Nat) (l:List Nat),Part n p l m→p+r=n→∀ x∈ext r m p l,Good n x∧x.length=l.length+m∧∃ t,x=l++t
 | r, 0, p, l, h, _, x, hx => by
  rw[ext_zero] at hx
  rw[List.mem_singleton.1 hx]
  exact⟨h.good,rfl,[],by simp⟩
 | 0,m+1,p,l,_,_,x,hx=>by cases hx
 | r + 1, m + 1, p, l, h, hr, x, hx => by
  have hx:x∈ext r m (p+1) (l++[p])++ext r (m+1) (p+1) l:=hx
  rcases List.mem_append.1 hx with hx | hx
  ·obtain⟨h1,h2,t,h3⟩:=ext_good r m (p+1) (l++[p]) (h.snoc (by omega)) (by omega) x hx
   refine⟨h1,by rw[h2];simp;omega,p::t,by rw[h3];simp⟩
  ·exact ext_good r (m+1) (p+1) l h.skip (by omega) x hx
theorem bitsOf_snoc (l:List Nat) (p:Nat):bitsOf (l++[p])=bitsOf l ||| 2 ^ p:=by
 unfold bitsOf setOf
 rw[List.foldl_append];rfl
theorem cntD_app (n:Nat) (l t:List Nat) (d:Nat):cntD n l d≤cntD n (l++t) d:=by
 unfold cntD
 rw[List.countP_append]
 have:l.countP (fun a=>decide ((a+d) % n∈l))≤l.countP (fun a=>decide ((a+d) % n∈l++t)):=by
  apply List.countP_mono_left
  intro a _ h
  rw[decide_eq_true_eq] at h ⊢
  exact List.mem_append_left _ h
 omega
theorem filter_none {α:Type} {p:α→Bool} {l:List α} (h:∀ x∈l,p x=false):l.filter p=[]:=List.filter_eq_nil_iff.2 fun x hx=>by rw[h x hx];simp
theorem min_zero {n:Nat} {l:List Nat} (h:Good n l) (hm:minT n (bitsOf l)=l) (hl:l≠[]):0∈l:=by
 have hn:=h.le
 have hs:=bitsOf_lt h.lt
 have hs32:=lt32 (n:=n) (by omega) hs
 cases l with
 | nil=>exact absurd rfl hl
 | cons a t =>
  have ha:=h.lt a List.mem_cons_self
  have hbit:(bitsOf (a::t)).testBit a=true:=by rw[bitsOf_bit];simp
  have h0:(turnN n (bitsOf (a::t)) (plc n (-(a:Int)))).testBit 0=true:=by rw[turn_neg_zero h.pos (by omega) hs ha];exact hbit
  obtain⟨r,hr⟩:=head_zero (n:=n) (lt32 (n:=n) (by omega) turn_lt) h.pos h0
  have hle:=(minT_least (n:=n) (s:=bitsOf (a::t)) h.pos).2 _ ⟨plc n (-(a:Int)),plc_lt h.pos _,rfl⟩
  rw[hm,hr,lexB_cons] at hle
  by_cases hz:a=0
  ·rw[hz];exact List.mem_cons_self
  ·rw[show Nat.beq 0 a=false from by cases a with | zero=>exact absurd rfl hz | succ a=>rfl] at hle
   rw[show Nat.blt 0 a=true from by rw[blt_eq];simp;omega] at hle
   cases hle
noncomputable def goodF (n:Nat) (D:List Nat) (l:List Nat):Bool:=decide (minT n (bitsOf l)=l) && decide (dists n l=D)
noncomputable def ableD (n:Nat) (D:List Nat) (l:List Nat):Bool:=((cntN n (bitsOf l)).all (few D)) && (bitsOf l).testBit 0
theorem head_mem {a x:Nat} {t u:List Nat} (h:(a::t).Pairwise (· < ·)) (h0:0∈a::t):a=0:=by
 rcases List.mem_cons.1 h0 with h0 | h0
 ·exact h0.symm
 ·have:=(List.pairwise_cons.1 h).1 0 h0;omega
theorem able_stays {n:Nat} {D l t:List Nat} (hl:Good n l) (hne:l≠[]) (hx:Good n (l++t)) (h:ableD n D l=false):goodF n D (l++t)=false:=by
 cases hg:goodF n D (l++t) with
 | false=>rfl
 | true =>
  exfalso
  unfold goodF at hg
  rw[Bool.and_eq_true,decide_eq_true_eq,decide_eq_true_eq] at hg
  obtain⟨g1,g2⟩:=hg
  have h0:=min_zero hx g1 (by cases l with | nil=>exact absurd rfl hne | cons a l=>simp)
  have hz:0∈l:=by
   cases l with
   | nil=>exact absurd rfl hne
   | cons a l=>rw[head_mem (x:=0) (u:=[]) hx.up h0];exact List.mem_cons_self
  have hn:=hl.le
  have hs32:=hl.lt32
  have hb:(bitsOf l).testBit 0=true:=by rw[bitsOf_bit];exact decide_eq_true hz
  have:ableD n D l=true:=by
   unfold ableD
   rw[hb,Bool.and_true,List.all_eq_true]
   intro p hp
   obtain⟨k1,k2⟩:=(cnt_good n (bitsOf l)).1 p hp
   have e1:look p.1 (cntN n (bitsOf l))=p.2:=look_mem (cnt_good n (bitsOf l)).2 hp
   rw[look_cnt hs32 k1 k2,hl.marks] at e1
   have e2:=cntD_app n l t p.1
   have e3:D[p.1 - 1]?=some (cntD n (l++t) p.1):=by
    rw[←g2,dists_get (by omega),show p.1 - 1+1=p.1 by omega]
   unfold few
   rw[e3]
   exact Nat.ble_eq_true_of_le (by show p.2≤cntD n (l++t) p.1;omega)
  rw[this] at h;cases h
end Go.RgP
set_option maxRecDepth 100000
set_option maxHeartbeats 4000000
namespace Go.RgP
open Go Go.Sp Go.RgJM
noncomputable def pT (i:Nat):Value:=.pointer (some ⟨i,0,none⟩)
theorem snoc32 {n p:Nat} {l:List Nat} (h:Good n l) (hp:p < n):aor .u32 (Int.ofNat (bitsOf l)) (shlI .u32 (1:Int) p)=Int.ofNat (bitsOf (l++[p])):=by
 have hn:=h.le
 rw[shl32 (by omega),aor32 h.lt32 (Nat.lt_of_lt_of_le (Nat.pow_lt_pow_right (by omega) (by omega:p < 32)) (by decide)),bitsOf_snoc]
theorem addW {a b:Nat} (h:a+b < 1000000):wrapF .i64 (Int.add (Int.ofNat a) (Int.ofNat b))=Int.ofNat (a+b):=wrapI _ (by show _≤((a+b:Nat):Int);omega) (by show ((a+b:Nat):Int)≤_;omega)
theorem subW {a:Nat} (h:a < 1000000):wrapF .i64 (Int.sub (Int.ofNat (a+1)) (1:Int))=Int.ofNat a:=by
 have e:Int.sub (Int.ofNat (a+1)) (1:Int)=Int.ofNat a:=by show ((a+1:Nat):Int) - 1=((a:Nat):Int);omega
 rw[e];exact wrapI _ (by show _≤((a:Nat):Int);omega) (by show ((a:Nat):Int)≤_;omega)
end Go.RgP
set_option maxRecDepth 100000
set_option maxHeartbeats 4000000
namespace Go.RgP
open Go Go.Sp Go.RgJM
noncomputable def mkS (p:Nat×List Nat):Sl:=⟨p.2.length,p.1,vL p.2⟩
noncomputable def qW (n:Nat) (q:List (Nat×List Nat)):List Value:=q.flatMap fun p=>[IV (Int.ofNat n),Sl.v 1 (mkS p)]
def z0 (q:List (List Nat)):List (Nat×List Nat):=q.map fun l=>(0,l)
theorem qW_app (n:Nat) (a b:List (Nat×List Nat)):qW n (a++b)=qW n a++qW n b:=by unfold qW;rw[List.flatMap_append]
theorem qW_len (n:Nat):∀ q:List (Nat×List Nat),(qW n q).length=q.length*2
 | []=>rfl
 | p :: q => by
  show (qW n q).length+1+1=(q.length+1)*2
  rw[qW_len n q];omega
theorem qW_closed (n:Nat):∀ q:List (Nat×List Nat),allL closed1 (qW n q)=true
 | []=>rfl
 | p :: q => by
  show an true (an (closed1 (Sl.v 1 (mkS p))) (allL closed1 (qW n q)))=true
  rw[qW_closed n q];rfl
theorem qW_take (n:Nat) (q:List (Nat×List Nat)):takeL (q.length*2) (qW n q)=qW n q:=by rw[takeL_eq,←qW_len n q,List.take_length]
theorem qW_drop (n:Nat) (q:List (Nat×List Nat)):dropL 0 (qW n q)=qW n q:=by rw[dropL_eq,List.drop_zero]
theorem qW_get (n:Nat):∀ (q:List (Nat×List Nat)) (i:Nat) (p:Nat×List Nat),q[i]?=some p→nthL (qW n q) (i*2)=some (IV (Int.ofNat n))∧nthL (qW n q) (i*2+1)=some (Sl.v 1 (mkS p))
 | [],i,p,h=>by simp at h
 | a :: q, 0, p, h => by
  have:a=p:=by simpa using h
  subst this;exact⟨rfl,rfl⟩
 | a :: q, i + 1, p, h => by
  have h:q[i]?=some p:=by simpa using h
  obtain⟨h1,h2⟩:=qW_get n q i p h
  rw[show (i+1)*2=i*2+1+1 by omega]
  exact⟨h1,h2⟩
def Cap (c len:Nat):Prop:=c / 2=len∧c % 2=0
theorem cap_new (n:Nat):Cap (2*n+bb false 1 0) n:=⟨by show (2*n+0) / 2=n;omega,by show (2*n+0) % 2=0;omega⟩
theorem grow_qW {n c k:Nat} {q:List (Nat×List Nat)} (hk:0 < k) (hq:q.length+k≤1000000000) (hc:Cap c q.length):growC 2 32 q.length c k (qW n q)=true:=by
 unfold growC roomy
 rw[len_eq,qW_len,hc.1,hc.2]
 rw[show Nat.ble ((4*(q.length+k)+4096)*32) 281474976710656=true from Nat.ble_eq_true_of_le (by omega),show Nat.ble (q.length+k) q.length=false from by rw[ble_eq];simp;omega,show Nat.ble (0+q.length*2) (q.length*2)=true from Nat.ble_eq_true_of_le (by omega),Nat.zero_add,show Nat.beq (q.length*2) (q.length*2)=true from Nat.beq_refl _]
 rfl
theorem cap_ok {n c:Nat} {q:List (Nat×List Nat)} (hc:Cap c q.length):orr (Nat.ble 2 c) (nilL (qW n q))=true:=by
 cases q with
 | nil=>rw[orr_eq,show nilL (qW n [])=true from rfl,Bool.or_true]
 | cons a q =>
  have h1:c / 2=q.length+1:=hc.1
  rw[show Nat.ble 2 c=true from Nat.ble_eq_true_of_le (by omega)];rfl
theorem fin_qW (n:Nat) (q:List (Nat×List Nat)) (e:Value):bb (allL closed1 (qW n q)) (bb (an (Nat.ble (0+q.length*2) (len (qW n q))) (allL closed1 (takeL (q.length*2) (dropL 0 (qW n q))))) (some (Value.tuple ⟨[Sl.v 2 (Sl.mk q.length 0 (takeL (q.length*2) (dropL 0 (qW n q)))),e]⟩)) none) none=some (Value.tuple ⟨[Sl.v 2 (Sl.mk q.length 0 (qW n q)),e]⟩):=by
 rw[qW_closed,bb_true,qW_drop,qW_take,qW_closed,len_eq,qW_len,show Nat.ble (0+q.length*2) (q.length*2)=true from Nat.ble_eq_true_of_le (by omega)];rfl
theorem equal_loop (pu:PureF) (L:Nat) {a b:List Nat} (hab:a.length=b.length) (ha:a.length < 900000) (f1 f2:Nat):∀ (r r':List Nat) (w i:Nat),a.drop i=r→b.drop i=r'→r.length < w→i≤a.length →
 l88_1 pu L w ⟨a.length,f1,vL a⟩ ⟨b.length,f2,vL b⟩ (Int.ofNat a.length) (Int.ofNat i)=some (.bool (decide (r=r')))
 | _,_,0,_,_,_,h,_=>by omega
 | [], r', w + 1, i, hd, hd', _, hi => by
  show b88_1 pu L (l88_1 pu L w) ⟨a.length,f1,vL a⟩ ⟨b.length,f2,vL b⟩ (Int.ofNat a.length) (Int.ofNat i)=_
  have h1:a.length≤i:=List.drop_eq_nil_iff.1 hd
  have h2:r'=[]:=by rw[←hd'];exact List.drop_eq_nil_iff.2 (by omega)
  subst h2
  unfold b88_1
  rw[ilt_nat,show Nat.blt i a.length=false from by rw[blt_eq];simp;omega];simp;rfl
 | x :: r, r', w + 1, i, hd, hd', hw, hi => by
  show b88_1 pu L (l88_1 pu L w) ⟨a.length,f1,vL a⟩ ⟨b.length,f2,vL b⟩ (Int.ofNat a.length) (Int.ofNat i)=_
  obtain⟨hd2,hi2,_⟩:=drop_next hd
  cases r' with
  | nil =>
   have h1:b.length≤i:=List.drop_eq_nil_iff.1 hd'
   omega
  | cons y r' =>
   obtain⟨hd3,_,_⟩:=drop_next hd'
   have hr:(x::r).length=r.length+1:=rfl
   have hlt:Nat.blt i a.length=true:=by rw[blt_eq];simp;omega
   have hlt2:Nat.blt i b.length=true:=by rw[blt_eq];simp;omega
   have ih:=equal_loop pu L hab ha f1 f2 r r' w (i+1) hd2 hd3 (by omega) (by omega)
   unfold b88_1
   rw[ilt_nat,hlt,bb_true,show toN (Int.ofNat i)=some i from rfl,oo_some]
   show bb (an (Nat.blt i a.length) true) (oo (nthL (vL a) (i*1)) none fun v=>oo (toI .i64 v) none fun x1=>bb (an (Nat.blt i b.length) true) (oo (nthL (vL b) (i*1)) none fun v=>oo (toI .i64 v) none fun x2=>bb (nt (ieq x1 x2)) (some (.bool false)) (l88_1 pu L w ⟨a.length,f1,vL a⟩ ⟨b.length,f2,vL b⟩ (Int.ofNat a.length) (wrapF .i64 (Int.add (Int.ofNat i) (1:Int))))) none) none=_
   rw [hlt, show an true true = true from rfl, bb_true, vL_get hd, oo_some, show ∀ z, toI .i64 (IV z) = some z from fun _ => rfl, oo_some, hlt2, show an true true = true from rfl, bb_true, vL_get hd', oo_some,
    show ∀ z,toI .i64 (IV z)=some z from fun _=>rfl,oo_some,wrapS i (by omega),ih,ieq_nat,beq_dec]
   by_cases h:x=y
   ·subst h;simp
   ·have hc:¬ (x::r=y::r'):=fun e=>h (by injection e)
    rw[decide_eq_false h,decide_eq_false hc];rfl
theorem q88 (k:Nat) (args:List Value):puN (k+1) 88 args=m88 (puN k) L args:=by kernel_rfl
theorem pu_equal (k f1 f2:Nat) {a b:List Nat} (ha:a.length < 900000):puN (k+1) 88 [Sl.v 1 ⟨a.length,f1,vL a⟩,Sl.v 1 ⟨b.length,f2,vL b⟩]=some (.bool (decide (a=b))):=by
 rw[q88]
 show bb (nt (ieq (Int.ofNat a.length) (Int.ofNat b.length))) (some (.bool false)) (l88_1 (puN k) L L ⟨a.length,f1,vL a⟩ ⟨b.length,f2,vL b⟩ (Int.ofNat a.length) (0:Int))=_
 rw[ieq_nat,beq_dec]
 by_cases h:a.length=b.length
 ·rw[decide_eq_true h,show nt true=false from rfl,bb_false]
  exact equal_loop (puN k) L h ha f1 f2 a b L 0 (List.drop_zero) (List.drop_zero) (by show _ < 1000000;omega) (by omega)
 ·have:¬ a=b:=fun e=>h (by rw[e])
  rw[decide_eq_false h,decide_eq_false this];rfl
theorem q10850 (k:Nat) (args:List Value):puN (k+1) 10850 args=m10850 (puN k) L args:=by kernel_rfl
theorem odd_bit {s:Nat} (hs:s < 4294967296):odd1 s=s.testBit 0:=by
 unfold odd1
 rw[show (1:Int)=Int.ofNat 1 from rfl,aand32 hs (by omega),ieq_nat,Nat.and_one_is_mod,Nat.testBit_zero,beq_dec]
theorem pu_able (k fl:Nat) {n:Nat} {l D:List Nat} (h:Good n l) (hD:D.length=n - 1):puN (k+4) 10850 [tv n (bitsOf l),pT 0,.agg ⟨[Sl.v 1 ⟨D.length,fl,vL D⟩]⟩]=some (ableV fl D (ableD n D l)):=by
 have hn:=h.le
 have h0:=h.pos
 rw[q10850]
 show m10850_ (puN (k+3)) L (Int.ofNat n) (Int.ofNat (bitsOf l)) ⟨D.length,fl,vL D⟩=_
 rw[able_ok (puN (k+3)) L (by omega) (by omega) (cnt_le (by omega)) (pu_counts k h0 (by omega)),odd_bit h.lt32]
 unfold ableD
 rw[an_eq]
noncomputable def fnE:Value:=.func (.func 85) ⟨[]⟩ ⟨[pT 0]⟩
noncomputable def fnG:Value:=.func (.func 87) ⟨[]⟩ ⟨[pT 0,pT 1]⟩
noncomputable def out3 (fl:Nat) (D:List Nat) (n:Nat) (q:List (Nat×List Nat)) (c:Nat):Value:=
 .tuple ⟨[.bool true,.agg ⟨[Sl.v 1 ⟨D.length,fl,vL D⟩]⟩,.agg ⟨[.slice (some ⟨3,0,some 2⟩) q.length c]⟩,deadV,.agg ⟨qW n q⟩]⟩
noncomputable def in3 (fl:Nat) (D:List Nat) (n:Nat) (q:List (Nat×List Nat)) (c:Nat):List Value:=
 [.agg ⟨[Sl.v 1 ⟨D.length,fl,vL D⟩]⟩,.agg ⟨[.slice (some ⟨2,0,some 2⟩) q.length c]⟩,.agg ⟨qW n q⟩]
theorem q10870 (k:Nat) (args:List Value):puN (k+1) 10870 args=m10870 (puN k) L args:=by kernel_rfl
theorem q10810 (k:Nat) (args:List Value):puN (k+1) 10810 args=m10810 (puN k) L args:=by kernel_rfl
theorem bits_min {n:Nat} {l:List Nat} (h:Good n l):Nat.beq (firstN n (bitsOf l)) (bitsOf l)=decide (minT n (bitsOf l)=l):=by
 have hn:=h.le
 have hs:=bitsOf_lt h.lt
 obtain⟨e1,e2⟩:=first_min h.pos hn hs
 rw[beq_dec]
 apply decide_eq_decide.2
 constructor
 ·intro e;rw[←e1,e,h.marks]
 ·intro e
  apply marks_inj (n:=n) (by omega) e2 hs
  rw[e1,e,h.marks]
theorem each87 (k fl:Nat) {n c:Nat} {l D:List Nat} {q:List (Nat×List Nat)} (h:Good n l) (hD:D.length=n - 1) (hc:Cap c q.length) (hq:q.length+1≤1000000000) :
 ∃ c',Cap c' (q++z0 (bif goodF n D l then [l] else [])).length∧puN (k+6) 10870 ([tv n (bitsOf l),pT 0,pT 1]++in3 fl D n q c)=some (out3 fl D n (q++z0 (bif goodF n D l then [l] else [])) c'):=by
 have hn:=h.le
 have h0:=h.pos
 have hs:=bitsOf_lt h.lt
 have hm:∀ b,∃ c',Cap c' (q++z0 (bif b then [l] else [])).length∧m10870_1 (puN (k+5)) L b ⟨D.length,fl,vL D⟩ q.length c (Int.ofNat n) (Int.ofNat (bitsOf l)) (qW n q)=some (out3 fl D n (q++z0 (bif b then [l] else [])) c'):=by
  intro b
  cases b with
  | true =>
   refine⟨2*(q.length+1)+bb false 1 0,?_,?_⟩
   ·have:(q++z0 (bif true then [l] else [])).length=q.length+1:=by simp[z0]
    rw[this];exact cap_new _
   ·unfold m10870_1
    rw[bb_true]
    show oo (puN (k+5) 66 [tv n (bitsOf l)]) none _=_
    rw[pu_seal (k+2) (by omega),h.marks,oo_some]
    show bb (growC 2 32 q.length c 1 (qW n q)) (bb (allL closed1 (appL (dropL 0 (qW n q)) [IV (Int.ofNat n),Sl.v 1 ⟨l.length,0,vL l⟩])) (m10870_0 (puN (k+5)) L ⟨D.length,fl,vL D⟩ (q.length+1) (2*(q.length+1)+bb false 1 0) (appL (dropL 0 (qW n q)) [IV (Int.ofNat n),Sl.v 1 ⟨l.length,0,vL l⟩])) none) none=_
    have e:appL (dropL 0 (qW n q)) [IV (Int.ofNat n),Sl.v 1 ⟨l.length,0,vL l⟩]=qW n (q++z0 [l]):=by rw[qW_app,appL_eq,qW_drop];rfl
    rw[grow_qW (by omega) hq hc,bb_true,e,qW_closed,bb_true]
    unfold m10870_0
    rw[qW_closed,bb_true]
    unfold out3
    show _=some (Value.tuple ⟨[.bool true,.agg ⟨[Sl.v 1 ⟨D.length,fl,vL D⟩]⟩,.agg ⟨[.slice (some ⟨3,0,some 2⟩) (q++z0 [l]).length (2*(q.length+1)+bb false 1 0)]⟩,deadV,.agg ⟨qW n (q++z0 [l])⟩]⟩)
    rw[show (q++z0 [l]).length=q.length+1 from by simp[z0]]
  | false =>
   refine⟨c,?_,?_⟩
   ·have:(q++z0 (bif false then [l] else []))=q:=by simp[z0]
    rw[this];exact hc
   ·have:(q++z0 (bif false then [l] else []))=q:=by simp[z0]
    rw[this]
    unfold m10870_1 m10870_0
    rw[bb_false,qW_closed,bb_true,bb_true];rfl
 have hdist:=pu_dists (k+1) h
 unfold slv at hdist
 rw[q10870]
 show ∃ c',_∧m10870_ (puN (k+5)) L (Int.ofNat n) (Int.ofNat (bitsOf l)) ⟨D.length,fl,vL D⟩ q.length c (qW n q)=_
 unfold m10870_
 rw[qW_closed,bb_true]
 show ∃ c',_∧oo (puN (k+5) 68 [tv n (bitsOf l)]) none _=_
 rw[pu_first (k+1) h0 hn hs,oo_some]
 show ∃ c',_∧bb (bq true (an (ieq (Int.ofNat n) (Int.ofNat n)) (an (ieq (Int.ofNat (firstN n (bitsOf l))) (Int.ofNat (bitsOf l))) true))) (oo (puN (k+5) 74 [tv n (bitsOf l)]) none _) _=_
 rw[ieq_nat,ieq_nat,bits_min h,show Nat.beq n n=true from Nat.beq_refl n,hdist]
 have hb:∀ b:Bool,bq true (an true (an b true))=b:=fun b=>by cases b <;> rfl
 rw[hb,oo_some,show ∀ sl:Sl,toSl 1 (Sl.v 1 sl)=some sl from fun _=>rfl,oo_some,pu_equal (k+4) 0 fl (by rw[dists_len];omega),oo_some,vBool_mk,oo_some]
 unfold goodF
 by_cases hg:minT n (bitsOf l)=l
 ·rw[decide_eq_true hg,bb_true,Bool.true_and];exact hm _
 ·rw[decide_eq_false hg,bb_false,Bool.false_and];exact hm false
noncomputable def argG (n s p m fl:Nat) (D:List Nat) (q:List (Nat×List Nat)) (c:Nat):List Value:=[tv n s,IV (Int.ofNat p),IV (Int.ofNat m),fnE,fnG]++in3 fl D n q c
def Pg (N n fl:Nat) (D:List Nat) (m:Nat):Prop:=∀ (r p:Nat) (l:List Nat) (q:List (Nat×List Nat)) (c:Nat),Part n p l m→p+r=n→(m=0∨True)→Cap c q.length→q.length+(ext r m p l).length≤1000000000 →
 ∃ c',Cap c' (q++z0 ((ext r m p l).filter (goodF n D))).length∧puN N 10810 (argG n (bitsOf l) p m fl D q c)=some (out3 fl D n (q++z0 ((ext r m p l).filter (goodF n D))) c')
theorem from_loop (N m fl:Nat) {n:Nat} {D:List Nat} (hD:D.length=n - 1) (hN:4≤N) (ihm:Pg N n fl D m) :
 ∀ (r w p : Nat) (l : List Nat) (q : List (Nat × List Nat)) (c : Nat), r < w → p + r = n → Part n p l (m + 1) → Cap c q.length → q.length + (ext r (m + 1) p l).length ≤ 1000000000 →
  ∃ c',Cap c' (q++z0 ((ext r (m+1) p l).filter (goodF n D))).length∧l10810_1 (puN N) L w (Int.ofNat (m+1)) (Int.ofNat p) ⟨D.length,fl,vL D⟩ q.length c (Int.ofNat n) (Int.ofNat (bitsOf l)) (qW n q)=some (out3 fl D n (q++z0 ((ext r (m+1) p l).filter (goodF n D))) c'):=by
 intro r
 induction r with
 | zero =>
  intro w p l q c hw hr hP hc _
  obtain⟨w,rfl⟩:∃ v,w=v+1:=⟨w - 1,by omega⟩
  have hn:=hP.good.le
  have hf:=hP.few
  have e:q++z0 ((ext 0 (m+1) p l).filter (goodF n D))=q:=by show q++[]=q;simp
  refine⟨c,by rw[e];exact hc,?_⟩
  rw[e]
  show b10810_1 (puN N) L (l10810_1 (puN N) L w) (Int.ofNat (m+1)) (Int.ofNat p) ⟨D.length,fl,vL D⟩ q.length c (Int.ofNat n) (Int.ofNat (bitsOf l)) (qW n q)=_
  unfold b10810_1
  rw[qW_closed,bb_true,addW (by omega),ilt_nat,show Nat.blt n (p+(m+1))=true from by rw[blt_eq];simp;omega,show nt true=false from rfl,bb_false]
  unfold m10810_0
  rw[qW_closed,bb_true];rfl
 | succ r ih =>
  intro w p l q c hw hr hP hc hq
  obtain⟨w,rfl⟩:∃ v,w=v+1:=⟨w - 1,by omega⟩
  have hn:=hP.good.le
  have hf:=hP.few
  have hp:p < n:=by omega
  have hb:l10810_1 (puN N) L (w+1) (Int.ofNat (m+1)) (Int.ofNat p) ⟨D.length,fl,vL D⟩ q.length c (Int.ofNat n) (Int.ofNat (bitsOf l)) (qW n q)=b10810_1 (puN N) L (l10810_1 (puN N) L w) (Int.ofNat (m+1)) (Int.ofNat p) ⟨D.length,fl,vL D⟩ q.length c (Int.ofNat n) (Int.ofNat (bitsOf l)) (qW n q):=rfl
  rw[hb]
  unfold b10810_1
  rw[qW_closed,bb_true,addW (by omega),ilt_nat]
  by_cases hs:r+1 < m+1
  ·rw[show Nat.blt n (p+(m+1))=true from by rw[blt_eq];simp;omega,show nt true=false from rfl,bb_false,ext_short hs]
   have e:q++z0 (([]:List (List Nat)).filter (goodF n D))=q:=by show q++[]=q;simp
   rw[e]
   refine⟨c,hc,?_⟩
   unfold m10810_0
   rw[qW_closed,bb_true];rfl
  ·rw[show Nat.blt n (p+(m+1))=false from by rw[blt_eq];simp;omega,show nt false=true from rfl,bb_true]
   have hS:=hP.snoc hp
   obtain⟨N',rfl⟩:∃ v,N=v+4:=⟨N - 4,by omega⟩
   have e85:=pu_able N' fl hS.good hD
   have go:ext (r+1) (m+1) p l=ext r m (p+1) (l++[p])++ext r (m+1) (p+1) l:=rfl
   rw[go] at hq ⊢
   rw[List.length_append] at hq
   rw[List.filter_append]
   have ez:∀ a b:List (List Nat),z0 (a++b)=z0 a++z0 b:=fun a b=>by unfold z0;rw[List.map_append]
   rw[ez,←List.append_assoc]
   rw[toN_mk,oo_some,snoc32 hP.good hp]
   show ∃ c',_∧oo (puN (N'+4) 10850 [tv n (bitsOf (l++[p])),pT 0,.agg ⟨[Sl.v 1 ⟨D.length,fl,vL D⟩]⟩]) none _=_
   rw[e85,oo_some]
   have next : ∀ (q' : List (Nat × List Nat)) (c' : Nat), Cap c' q'.length → q'.length + (ext r (m + 1) (p + 1) l).length ≤ 1000000000 → ∃ c'', Cap c'' (q' ++ z0 ((ext r (m + 1) (p + 1) l).filter (goodF n D))).length ∧
    m10810_2 (puN (N'+4)) L (l10810_1 (puN (N'+4)) L w) (Int.ofNat (m+1)) (Int.ofNat p) false ⟨D.length,fl,vL D⟩ q'.length c' (Int.ofNat n) (Int.ofNat (bitsOf l)) (qW n q')=some (out3 fl D n (q'++z0 ((ext r (m+1) (p+1) l).filter (goodF n D))) c''):=by
    intro q' c' hc' hq'
    obtain⟨c'',k1,k2⟩:=ih w (p+1) l q' c' (by omega) (by omega) hP.skip hc' hq'
    refine⟨c'',k1,?_⟩
    unfold m10810_2
    rw[bb_false,qW_closed,bb_true,wrapS p (by omega)]
    exact k2
   unfold ableV
   simp only[vTup_mk,oo_some,ll_cons',ll_nil',vBool_mk,vAgg_mk,toSl_mk]
   cases ha:ableD n D (l++[p]) with
   | false =>
    have hno:(ext r m (p+1) (l++[p])).filter (goodF n D)=[]:=filter_none fun x hx=>by
     obtain⟨g,_,t,rfl⟩:=ext_good r m (p+1) (l++[p]) hS (by omega) x hx
     exact able_stays hS.good (by simp) g ha
    rw[hno,bb_false,show q++z0 []=q from List.append_nil q]
    exact next q c hc (by omega)
   | true =>
    rw[bb_true,cap_ok hc,bb_true,bb_true,wrapS p (by omega),subW (by omega)]
    obtain⟨c1,k1,k2⟩:=ihm r (p+1) (l++[p]) q c hS (by omega) (.inr trivial) hc (by omega)
    have k2' : puN (N' + 4) 10810 [.agg ⟨[.int .i64 (Int.ofNat n), .int .u32 (Int.ofNat (bitsOf (l ++ [p])))]⟩, .int .i64 (Int.ofNat (p + 1)), .int .i64 (Int.ofNat m), .func (.func 85) ⟨[]⟩ ⟨[.pointer (some ⟨0, 0, none⟩)]⟩, .func (.func 87) ⟨[]⟩ ⟨[.pointer (some ⟨0, 0, none⟩), .pointer (some ⟨1, 0, none⟩)]⟩,
     .agg ⟨[Sl.v 1 ⟨D.length,fl,vL D⟩]⟩,.agg ⟨[.slice (some ⟨2,0,some 2⟩) q.length c]⟩,.agg ⟨qW n q⟩]=_:=k2
    rw[k2',oo_some]
    have hle:(z0 ((ext r m (p+1) (l++[p])).filter (goodF n D))).length≤(ext r m (p+1) (l++[p])).length:=by
     unfold z0;rw[List.length_map];exact List.length_filter_le _ _
    obtain⟨c2,g1,g2⟩:=next (q++z0 ((ext r m (p+1) (l++[p])).filter (goodF n D))) c1 k1 (by rw[List.length_append];omega)
    refine⟨c2,g1,?_⟩
    rw[←g2]
    generalize q++z0 ((ext r m (p+1) (l++[p])).filter (goodF n D))=q2
    show bb (isDead deadV) (bb (allL closed1 (qW n q2)) (bb (allL closed1 (qW n q2)) _ none) none) none=_
    rw[qW_closed,bb_true,bb_true];rfl
theorem from_grown (k fl:Nat) {n:Nat} {D:List Nat} (hD:D.length=n - 1):∀ m:Nat,Pg (k+m+7) n fl D m:=by
 intro m
 induction m with
 | zero =>
  intro r p l q c hP hr _ hc hq
  rw[ext_zero] at hq ⊢
  obtain⟨c',k1,k2⟩:=each87 k fl hP.good hD hc (by simpa using hq)
  have e:[l].filter (goodF n D)=bif goodF n D l then [l] else []:=by
   rw[List.filter_cons];cases goodF n D l <;> rfl
  rw[e]
  refine⟨c',k1,?_⟩
  rw[q10810]
  show m10810_ (puN (k+6)) L (Int.ofNat n) (Int.ofNat (bitsOf l)) (Int.ofNat p) (0:Int) ⟨D.length,fl,vL D⟩ q.length c (qW n q)=_
  unfold m10810_
  rw[qW_closed,bb_true,show ieq (0:Int) 0=true from rfl,bb_true,cap_ok hc,bb_true,bb_true]
  have k2':puN (k+6) 10870 [.agg ⟨[.int .i64 (Int.ofNat n),.int .u32 (Int.ofNat (bitsOf l))]⟩,.pointer (some ⟨0,0,none⟩),.pointer (some ⟨1,0,none⟩),.agg ⟨[Sl.v 1 ⟨D.length,fl,vL D⟩]⟩,.agg ⟨[.slice (some ⟨2,0,some 2⟩) q.length c]⟩,.agg ⟨qW n q⟩]=_:=k2
  rw[k2',oo_some]
  generalize q++z0 (bif goodF n D l then [l] else [])=q2
  show bb (isDead deadV) (bb (allL closed1 (qW n q2)) (bb (allL closed1 (qW n q2)) _ none) none) none=_
  rw[qW_closed,bb_true,bb_true];rfl
 | succ m ih =>
  intro r p l q c hP hr _ hc hq
  have hn:=hP.good.le
  obtain⟨c',k1,k2⟩:=from_loop (k+m+7) m fl hD (by omega) ih r L p l q c (by show r < 1000000;omega) hr hP hc hq
  refine⟨c',k1,?_⟩
  rw[show k+(m+1)+7=k+m+7+1 by omega,q10810]
  show m10810_ (puN (k+m+7)) L (Int.ofNat n) (Int.ofNat (bitsOf l)) (Int.ofNat p) (Int.ofNat (m+1)) ⟨D.length,fl,vL D⟩ q.length c (qW n q)=_
  unfold m10810_
  rw[qW_closed,bb_true,show ieq (Int.ofNat (m+1)) 0=false from rfl,bb_false]
  exact k2
end Go.RgP
set_option maxRecDepth 100000
set_option maxHeartbeats 4000000
namespace Go.RgP
open Go Go.Sp Go.RgJM
theorem z0_app (a b:List (List Nat)):z0 (a++b)=z0 a++z0 b:=by unfold z0;rw[List.map_append]
theorem z0_len (a:List (List Nat)):(z0 a).length=a.length:=by unfold z0;rw[List.length_map]
theorem cho_big {n p r m:Nat} {l:List Nat} (hP:Part n p l m) (hr:p+r=n):(ext r m p l).length≤60000:=by
 have hn:=hP.good.le
 have hf:=hP.few
 rw[ext_len];exact cho_le m r (by omega) (by omega)
end Go.RgP
set_option maxRecDepth 100000
set_option maxHeartbeats 4000000
namespace Go.RgP
open Go Go.Sp Go.RgJM
end Go.RgP
set_option maxRecDepth 100000
set_option maxHeartbeats 4000000
namespace Go.RgP
open Go Go.Sp Go.RgJM
structure Fine (n:Nat) (l:List Nat):Prop where
 pos:0 < n
 le:n≤21
 few:l.length≤10
 lt:∀ x∈l,x < n
end Go.RgP
set_option maxRecDepth 100000
set_option maxHeartbeats 4000000
namespace Go.RgP
open Go Go.Sp Go.RgJM
end Go.RgP
set_option maxRecDepth 100000
set_option maxHeartbeats 4000000
namespace Go.RgP
open Go Go.Sp Go.RgJM
end Go.RgP
set_option maxRecDepth 100000
set_option maxHeartbeats 4000000
namespace Go.RgP
open Go Go.Sp Go.RgJM
theorem same_loop (pu:PureF) (L:Nat) {a b:List Int} (hab:a.length=b.length) (ha:a.length < 900000) (f1 f2:Nat):∀ (r r':List Int) (w i:Nat),a.drop i=r→b.drop i=r'→r.length < w→i≤a.length →
 l23_1 pu L w ⟨a.length,f1,iLI a⟩ ⟨b.length,f2,iLI b⟩ (Int.ofNat i)=some (.bool (decide (r=r')))
 | _,_,0,_,_,_,h,_=>by omega
 | [], r', w + 1, i, hd, hd', _, hi => by
  show b23_1 pu L (l23_1 pu L w) ⟨a.length,f1,iLI a⟩ ⟨b.length,f2,iLI b⟩ (Int.ofNat i)=_
  have h1:a.length≤i:=List.drop_eq_nil_iff.1 hd
  have h2:r'=[]:=by rw[←hd'];exact List.drop_eq_nil_iff.2 (by omega)
  subst h2
  unfold b23_1
  show bb (ilt (Int.ofNat i) (Int.ofNat a.length)) _ _=_
  rw[ilt_nat,show Nat.blt i a.length=false from by rw[blt_eq];simp;omega];simp;rfl
 | x :: r, r', w + 1, i, hd, hd', hw, hi => by
  show b23_1 pu L (l23_1 pu L w) ⟨a.length,f1,iLI a⟩ ⟨b.length,f2,iLI b⟩ (Int.ofNat i)=_
  obtain⟨hd2,hi2,_⟩:=dropI_next hd
  cases r' with
  | nil =>
   have h1:b.length≤i:=List.drop_eq_nil_iff.1 hd'
   omega
  | cons y r' =>
   obtain⟨hd3,_,_⟩:=dropI_next hd'
   have hr:(x::r).length=r.length+1:=rfl
   have hlt:Nat.blt i a.length=true:=by rw[blt_eq];simp;omega
   have hlt2:Nat.blt i b.length=true:=by rw[blt_eq];simp;omega
   have ih:=same_loop pu L hab ha f1 f2 r r' w (i+1) hd2 hd3 (by omega) (by omega)
   unfold b23_1
   show bb (ilt (Int.ofNat i) (Int.ofNat a.length)) (oo (toN (Int.ofNat i)) none fun k=>bb (an (Nat.blt k a.length) true) (oo (nthL (iLI a) (k*1)) none fun v=>oo (toI .i64 v) none fun x1=>bb (an (Nat.blt k b.length) true) (oo (nthL (iLI b) (k*1)) none fun v=>oo (toI .i64 v) none fun x2=>bb (nt (ieq x1 x2)) (some (.bool false)) (l23_1 pu L w ⟨a.length,f1,iLI a⟩ ⟨b.length,f2,iLI b⟩ (wrapF .i64 (Int.add (Int.ofNat k) (1:Int))))) none) none) (m23_0 pu L)=_
   rw [ilt_nat, hlt, bb_true, show toN (Int.ofNat i) = some i from rfl, oo_some, hlt, show an true true = true from rfl, bb_true, iLI_get hd, oo_some, show ∀ z, toI .i64 (IV z) = some z from fun _ => rfl, oo_some, hlt2, show an true true = true from rfl, bb_true, iLI_get hd', oo_some,
    show ∀ z,toI .i64 (IV z)=some z from fun _=>rfl,oo_some,wrapS i (by omega),ih,ieq_eq]
   by_cases h:x=y
   ·subst h;simp
   ·have hxy:(x == y)=false:=by simpa using h
    have hc:¬ (x::r=y::r'):=fun e=>h (by injection e)
    rw[hxy,decide_eq_false hc];rfl
theorem p23 (k:Nat) (args:List Value):puN (k+1) 23 args=m23 (puN k) L args:=by kernel_rfl
theorem pu_same (k f1 f2:Nat) {a b:List Int} (ha:a.length < 900000):puN (k+1) 23 [slI f1 a,slI f2 b]=some (.bool (decide (a=b))):=by
 rw[p23]
 show bb (nt (ieq (Int.ofNat a.length) (Int.ofNat b.length))) (some (.bool false)) (l23_1 (puN k) L L ⟨a.length,f1,iLI a⟩ ⟨b.length,f2,iLI b⟩ (0:Int))=_
 rw[ieq_nat,beq_dec]
 by_cases h:a.length=b.length
 ·rw[decide_eq_true h,show nt true=false from rfl,bb_false]
  exact same_loop (puN k) L h ha f1 f2 a b L 0 (List.drop_zero) (List.drop_zero) (by show _ < 1000000;omega) (by omega)
 ·have:¬ a=b:=fun e=>h (by rw[e])
  rw[decide_eq_false h,decide_eq_false this];rfl
theorem pu_sameN (k:Nat) {a b:List Nat} (ha:a.length < 900000):puN (k+1) 23 [slv a,slv b]=some (.bool (decide (a=b))):=by
 rw[slv_slI,slv_slI,pu_same k 0 0 (by simpa using ha)]
 congr 2
 exact decide_eq_decide.2 map_ofNat_inj
end Go.RgP
set_option maxRecDepth 100000
set_option maxHeartbeats 4000000
namespace Go.RgP
open Go Go.Sp Go.RgJM
theorem drop_at {α:Type} {q:List α} {i:Nat} {p:α} {r:List α} (h:q.drop i=p::r):q[i]?=some p∧q.drop (i+1)=r∧i < q.length:=by
 have h1:q[i]?=some p:=by
  have:=congrArg List.head? h
  rw[List.head?_drop] at this;exact this
 refine⟨h1,?_,(List.getElem?_eq_some_iff.1 h1).1⟩
 rw[←List.drop_drop,h];rfl
end Go.RgP
set_option maxRecDepth 100000
set_option maxHeartbeats 4000000
namespace Go.RgP
open Go Go.Sp Go.RgJM
noncomputable def frV (n f:Nat) (q:List (Nat×List Nat)) (e:Int):Value:=tup2 (Sl.v 2 ⟨q.length,f,qW n q⟩) (IV e)
theorem q37 (k:Nat) (args:List Value):puN (k+1) 37 args=m37 (puN k) L args:=by kernel_rfl
def okI (r:List Int):Bool:=r.all fun x=>decide (0≤x∧x≤6)
theorem okI_cons (x:Int) (r:List Int):okI (x::r)=(decide (0≤x∧x≤6) && okI r):=rfl
theorem sum37 (pu:PureF) (L n fl:Nat) {Ds:List Int} (hD:Ds.length≤1000):∀ (r:List Int) (w i:Nat) (z:Int),Ds.drop i=r→r.length < w→i≤Ds.length→0≤z→z≤6*(i:Int) →
 l37_5 pu L w (Int.ofNat n) z ⟨Ds.length,fl,iLI Ds⟩ (Int.ofNat Ds.length) (Int.ofNat i) ⟨Ds.length,fl,iLI Ds⟩=bif okI r then m37_1 pu L (Int.ofNat n) (z+r.sum) ⟨Ds.length,fl,iLI Ds⟩ else some (frV 0 2 [] 1):=by
 intro r
 induction r with
 | nil =>
  intro w i z hd hw hi h0 h1
  obtain⟨w,rfl⟩:∃ v,w=v+1:=⟨w - 1,by omega⟩
  have h1:Ds.length≤i:=List.drop_eq_nil_iff.1 hd
  show b37_5 pu L (l37_5 pu L w) (Int.ofNat n) z ⟨Ds.length,fl,iLI Ds⟩ (Int.ofNat Ds.length) (Int.ofNat i) ⟨Ds.length,fl,iLI Ds⟩=_
  unfold b37_5
  rw[ilt_nat,show Nat.blt i Ds.length=false from by rw[blt_eq];simp;omega,bb_false]
  show _=m37_1 pu L (Int.ofNat n) (z+0) ⟨Ds.length,fl,iLI Ds⟩
  rw[Int.add_zero]
 | cons x r ih =>
  intro w i z hd hw hi h0 h1
  obtain⟨w,rfl⟩:∃ v,w=v+1:=⟨w - 1,by simp at hw;omega⟩
  obtain⟨hd2,hi2,_⟩:=dropI_next hd
  have hr:(x::r).length=r.length+1:=rfl
  have hlt:Nat.blt i Ds.length=true:=by rw[blt_eq];simp;omega
  show b37_5 pu L (l37_5 pu L w) (Int.ofNat n) z ⟨Ds.length,fl,iLI Ds⟩ (Int.ofNat Ds.length) (Int.ofNat i) ⟨Ds.length,fl,iLI Ds⟩=_
  unfold b37_5
  rw[ilt_nat,hlt,bb_true,toN_mk,oo_some]
  show bb (an (Nat.blt i Ds.length) true) (oo (nthL (iLI Ds) (i*1)) none _) none=_
  rw[hlt,show an true true=true from rfl,bb_true,iLI_get hd,oo_some,show ∀ z,toI .i64 (IV z)=some z from fun _=>rfl,oo_some,okI_cons]
  unfold m37_6
  rw[ilt_eq,ilt_eq]
  by_cases hx:x < 0
  ·rw[decide_eq_true hx,decide_eq_false (show ¬ (0≤x∧x≤6) by omega)];rfl
  ·rw[decide_eq_false hx,bb_false]
   by_cases hx2:6 < x
   ·rw[decide_eq_true hx2,decide_eq_false (show ¬ (0≤x∧x≤6) by omega)];rfl
   ·have hz:wrapF .i64 (Int.add z x)=z+x:=wrapI _ (by show _≤z+x;omega) (by show z+x≤_;omega)
    rw[decide_eq_false hx2,decide_eq_true (show 0≤x∧x≤6 by omega),bb_false,Bool.true_and,hz,wrapS i (by omega),ih w (i+1) (z+x) hd2 (by omega) (by omega) (by omega) (by omega),List.sum_cons,Int.add_assoc]
def kk (k:Nat) (S:Int):Bool:=decide ((k:Int)*((k:Int) - 1)=S)
theorem kk_eq {k:Nat} (hk:k≤10) (S:Int):ieq (wrapF .i64 (Int.mul (Int.ofNat k) (wrapF .i64 (Int.sub (Int.ofNat k) (1:Int))))) S=kk k S:=by
 have h:k=0∨k=1∨k=2∨k=3∨k=4∨k=5∨k=6∨k=7∨k=8∨k=9∨k=10:=by omega
 rw[ieq_eq]
 unfold kk
 have w1:wrapF .i64 (Int.sub (Int.ofNat k) (1:Int))=(k:Int) - 1:=wrapI _ (by show _≤(k:Int) - 1;omega) (by show (k:Int) - 1≤_;omega)
 have w2:-100≤(k:Int)*((k:Int) - 1)∧(k:Int)*((k:Int) - 1)≤100:=by rcases h with rfl | rfl | rfl | rfl | rfl | rfl | rfl | rfl | rfl | rfl | rfl <;> decide
 have w3:wrapF .i64 (Int.mul (Int.ofNat k) ((k:Int) - 1))=(k:Int)*((k:Int) - 1):=wrapI _ (by show _≤(k:Int)*((k:Int) - 1);omega) (by show (k:Int)*((k:Int) - 1)≤_;omega)
 rw[w1,w3]
 by_cases h:(k:Int)*((k:Int) - 1)=S
 ·rw[decide_eq_true h,h];simp
 ·rw[decide_eq_false h];simpa using h
noncomputable def fromQ (n:Nat) (D:List Nat) (S:Int):Nat→Nat→List (List Nat)
 | 0,_=>[]
 | j+1,k=>(bif kk k S then (ext n k 0 []).filter (goodF n D) else [])++fromQ n D S j (k+1)
theorem ret37 (pu:PureF) (L n c:Nat) (q:List (Nat×List Nat)):m37_2 pu L q.length c (qW n q)=some (frV n 0 q 0):=by
 unfold m37_2
 exact fin_qW n q _
theorem from37 (K fl:Nat) {n B:Nat} {D:List Nat} (S:Int) (h0:0 < n) (hn:n≤21) (hD:D.length=n - 1) (hB:B≤7) (hBn:B≤n+1):∀ (j w k:Nat) (q:List (Nat×List Nat)) (c:Nat),k+j=B→j < w→Cap c q.length→q.length≤60000*k →
 ∃ c',Cap c' (q++z0 (fromQ n D S j k)).length∧l37_3 (puN (K+14)) L w (Int.ofNat n) S (Int.ofNat B) (Int.ofNat k) ⟨D.length,fl,vL D⟩ q.length c (qW n q)=some (frV n 0 (q++z0 (fromQ n D S j k)) 0):=by
 intro j
 induction j with
 | zero =>
  intro w k q c hk hw hc hq
  obtain⟨w,rfl⟩:∃ v,w=v+1:=⟨w - 1,by omega⟩
  have e:q++z0 (fromQ n D S 0 k)=q:=List.append_nil q
  rw[e]
  refine⟨c,hc,?_⟩
  have hb:l37_3 (puN (K+14)) L (w+1) (Int.ofNat n) S (Int.ofNat B) (Int.ofNat k) ⟨D.length,fl,vL D⟩ q.length c (qW n q)=b37_3 (puN (K+14)) L (l37_3 (puN (K+14)) L w) (Int.ofNat n) S (Int.ofNat B) (Int.ofNat k) ⟨D.length,fl,vL D⟩ q.length c (qW n q):=rfl
  rw[hb]
  unfold b37_3
  rw[qW_closed,bb_true,ilt_nat,show Nat.blt k B=false from by rw[blt_eq];simp;omega,bb_false,ret37]
 | succ j ih =>
  intro w k q c hk hw hc hq
  obtain⟨w,rfl⟩:∃ v,w=v+1:=⟨w - 1,by omega⟩
  have hb:l37_3 (puN (K+14)) L (w+1) (Int.ofNat n) S (Int.ofNat B) (Int.ofNat k) ⟨D.length,fl,vL D⟩ q.length c (qW n q)=b37_3 (puN (K+14)) L (l37_3 (puN (K+14)) L w) (Int.ofNat n) S (Int.ofNat B) (Int.ofNat k) ⟨D.length,fl,vL D⟩ q.length c (qW n q):=rfl
  rw[hb]
  unfold b37_3
  rw[qW_closed,bb_true,ilt_nat,show Nat.blt k B=true from by rw[blt_eq];simp;omega,bb_true,kk_eq (by omega)]
  have next : ∀ (q' : List (Nat × List Nat)) (c' : Nat), Cap c' q'.length → q'.length ≤ 60000 * (k + 1) → ∃ c'', Cap c'' (q' ++ z0 (fromQ n D S j (k + 1))).length ∧
   m37_4 (puN (K+14)) L (l37_3 (puN (K+14)) L w) (Int.ofNat n) S (Int.ofNat B) (Int.ofNat k) ⟨D.length,fl,vL D⟩ q'.length c' (qW n q')=some (frV n 0 (q'++z0 (fromQ n D S j (k+1))) 0):=by
   intro q' c' hc' hq'
   obtain⟨c'',k1,k2⟩:=ih w (k+1) q' c' (by omega) (by omega) hc' hq'
   refine⟨c'',k1,?_⟩
   unfold m37_4
   rw[qW_closed,bb_true,wrapS k (by omega)]
   exact k2
  have go:fromQ n D S (j+1) k=(bif kk k S then (ext n k 0 []).filter (goodF n D) else [])++fromQ n D S j (k+1):=rfl
  rw[go,z0_app,←List.append_assoc]
  cases hkk:kk k S with
  | false =>
   rw[bb_false,show q++z0 (bif false then (ext n k 0 []).filter (goodF n D) else [])=q from List.append_nil q]
   exact next q c hc (by omega)
  | true =>
   have hP:Part n 0 [] k:=part_nil h0 hn (by omega)
   have hbig:=cho_big hP (r:=n) (by omega)
   obtain⟨c1,k1,k2⟩:=from_grown (K+7 - k) fl hD k n 0 [] q c hP (by omega) (.inr trivial) hc (by omega)
   rw[show K+7 - k+k+7=K+14 by omega] at k2
   have hle:(z0 ((ext n k 0 []).filter (goodF n D))).length≤60000:=by
    rw[z0_len];exact Nat.le_trans (List.length_filter_le _ _) hbig
   rw[bb_true,cap_ok hc,bb_true,bb_true]
   have k2' : puN (K + 14) 10810 [.agg ⟨[.int .i64 (Int.ofNat n), .int .u32 (0 : Int)]⟩, .int .i64 (0 : Int), .int .i64 (Int.ofNat k), .func (.func 85) ⟨[]⟩ ⟨[.pointer (some ⟨0, 0, none⟩)]⟩, .func (.func 87) ⟨[]⟩ ⟨[.pointer (some ⟨0, 0, none⟩), .pointer (some ⟨1, 0, none⟩)]⟩,
    .agg ⟨[Sl.v 1 ⟨D.length,fl,vL D⟩]⟩,.agg ⟨[.slice (some ⟨2,0,some 2⟩) q.length c]⟩,.agg ⟨qW n q⟩]=_:=k2
   rw[k2',oo_some]
   show ∃ c',Cap c' (q++z0 ((ext n k 0 []).filter (goodF n D))++z0 (fromQ n D S j (k+1))).length∧_=some (frV n 0 (q++z0 ((ext n k 0 []).filter (goodF n D))++z0 (fromQ n D S j (k+1))) 0)
   obtain⟨c2,g1,g2⟩:=next (q++z0 ((ext n k 0 []).filter (goodF n D))) c1 k1 (by rw[List.length_append];omega)
   refine⟨c2,g1,?_⟩
   rw[←g2]
   generalize q++z0 ((ext n k 0 []).filter (goodF n D))=q2
   show bb (isDead deadV) (bb (allL closed1 (qW n q2)) (bb (allL closed1 (qW n q2)) _ none) none) none=_
   rw[qW_closed,bb_true,bb_true];rfl
end Go.RgP
