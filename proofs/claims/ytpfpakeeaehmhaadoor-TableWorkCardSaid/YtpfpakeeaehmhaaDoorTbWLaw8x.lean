/- Made from wip. -/
import Derived.Test.YtpfpakeeaehmhaaDoorSpObjx
import Derived.Test.YtpfpakeeaehmhaaDoorTbWPux
import Derived.KernelRfl

set_option maxRecDepth 100000
namespace Go.TM

def K8 (r:List Int) (p:Int×Int):List Int:=(r.set p.1.toNat (min (r.getD p.1.toNat 0) (r.getD p.2.toNat 0))).set p.2.toNat (max (r.getD p.1.toNat 0) (r.getD p.2.toNat 0))
theorem Gn (r:List Int) (p:Int×Int):(K8 r p).length=r.length:=by simp[K8]
def runs (r:List Int) (C:List (Int×Int)):List Int:=C.foldl K8 r
theorem Eo:∀ (C:List (Int×Int)) (r:List Int),(runs r C).length=r.length
 | [],r=>rfl
 | p::C,r=>by show (runs (K8 r p) C).length=_;rw[Eo C,Gn]
theorem Wo (r:List Int) (C D:List (Int×Int)):runs r (C++D)=runs (runs r C) D:=by simp[runs]
theorem KS (r:List Int) (p:Int×Int) (D:List (Int×Int)):runs r (p::D)=runs (K8 r p) D:=rfl

def W9 (n:Nat) (p:Int×Int):Prop:=0≤p.1∧p.1 < p.2∧p.2 < (n:Int)
def Gw (n:Nat) (C:List (Int×Int)):Prop:=∀ p∈C,W9 n p

theorem RZ (r:List Int) (i j:Nat) (v:Int) (hi:i < r.length):(r.set i v).getD j 0=if j=i then v else r.getD j 0:=by
 simp only[List.getD_eq_getElem?_getD,List.getElem?_set]
 by_cases h:i=j
 ·subst h;simp[hi]
 ·have h':¬ j=i:=fun e=>h e.symm
  simp[h,h']
theorem Wp {n:Nat} {r:List Int} {p:Int×Int} (hp:W9 n p) (hr:r.length=n) (j:Nat) :
 (K8 r p).getD j 0=if j=p.2.toNat then max (r.getD p.1.toNat 0) (r.getD p.2.toNat 0) else if j=p.1.toNat then min (r.getD p.1.toNat 0) (r.getD p.2.toNat 0) else r.getD j 0:=by
 obtain⟨h1,h2,h3⟩:=hp
 unfold K8
 rw[RZ _ _ _ _ (by simp;omega),RZ _ _ _ _ (by omega)]
theorem R3 {a b:List Int} (h:a.length=b.length) (e:∀ j,j < a.length→a.getD j 0=b.getD j 0):a=b:=by
 apply List.ext_getElem h
 intro j h1 h2
 have:=e j h1
 simp only[List.getD_eq_getElem?_getD,List.getElem?_eq_getElem h1,List.getElem?_eq_getElem h2,Option.getD_some] at this
 exact this
theorem getD_map (f:Int→Int) (r:List Int) (j:Nat) (hj:j < r.length):(r.map f).getD j 0=f (r.getD j 0):=by
 simp[List.getD_eq_getElem?_getD,hj]

def mono (f:Int→Int):Prop:=∀ a b,a≤b→f a≤f b
theorem Wq {f:Int→Int} (h:mono f) (a b:Int):min (f a) (f b)=f (min a b):=by
 rcases Int.le_total a b with c | c
 ·rw[Int.min_eq_left c,Int.min_eq_left (h _ _ c)]
 ·rw[Int.min_eq_right c,Int.min_eq_right (h _ _ c)]
theorem Ws {f:Int→Int} (h:mono f) (a b:Int):max (f a) (f b)=f (max a b):=by
 rcases Int.le_total a b with c | c
 ·rw[Int.max_eq_right c,Int.max_eq_right (h _ _ c)]
 ·rw[Int.max_eq_left c,Int.max_eq_left (h _ _ c)]
theorem X0 {f:Int→Int} (h:mono f) {n:Nat} {r:List Int} {p:Int×Int} (hp:W9 n p) (hr:r.length=n):K8 (r.map f) p=(K8 r p).map f:=by
 obtain⟨h1,h2,h3⟩:=hp
 unfold K8
 rw[getD_map f r _ (by omega),getD_map f r _ (by omega),Wq h,Ws h,List.map_set,List.map_set]
theorem JO {f:Int→Int} (h:mono f) {n:Nat}:∀ (C:List (Int×Int)) (r:List Int),Gw n C→r.length=n→runs (r.map f) C=(runs r C).map f
 | [],r,_,_=>rfl
 | p :: C, r, hC, hr => by
  rw[KS,KS,X0 h (hC p (by simp)) hr]
  exact JO h C (K8 r p) (fun q hq=>hC q (by simp[hq])) (by rw[Gn];exact hr)

def Pg (r:List Int):Prop:=∀ j,1≤j→j < r.length→¬ r.getD j 0 < r.getD (j - 1) 0
def plain (n m:Nat):List Int:=(List.range n).map fun lane=>if m.testBit (n - 1 - lane) then 1 else 0
theorem FD (n m:Nat):(plain n m).length=n:=by simp[plain]
theorem Wt (n m j:Nat) (hj:j < n):(plain n m).getD j 0=if m.testBit (n - 1 - j) then 1 else 0:=by
 simp[plain,List.getD_eq_getElem?_getD,hj]
def num:List Int→Nat
 | []=>0
 | x::l=>(if x=1 then 2 ^ l.length else 0)+num l
theorem Qz:∀ l:List Int,num l < 2 ^ l.length
 | []=>by simp[num]
 | x :: l => by
  have:=Qz l
  simp only[num,List.length_cons,Nat.pow_succ]
  split <;> omega
theorem Ui:∀ (l:List Int) (j:Nat),j < l.length→(num l).testBit (l.length - 1 - j)=decide (l.getD j 0=1)
 | [],j,h=>by simp at h
 | x :: l, 0, _ => by
  have:=Qz l
  simp only[num,List.length_cons,Nat.add_sub_cancel,Nat.sub_zero]
  by_cases hx:x=1
  ·simp only[hx,if_true]
   rw[Nat.testBit_two_pow_add_eq,Nat.testBit_lt_two_pow this];simp
  ·simp only[hx,if_false,Nat.zero_add]
   rw[Nat.testBit_lt_two_pow this];simp[hx]
 | x :: l, j + 1, h => by
  have h':j < l.length:=by simpa using h
  have ih:=Ui l j h'
  simp only[num,List.length_cons,Nat.add_sub_cancel]
  have e:l.length - (j+1)=l.length - 1 - j:=by omega
  rw[e]
  by_cases hx:x=1
  ·simp only[hx,if_true]
   rw[Nat.testBit_two_pow_add_gt (by omega),ih];simp
  ·simp only[hx,if_false,Nat.zero_add]
   rw[ih];simp
theorem Ps (l:List Int) (h:∀ j,j < l.length→l.getD j 0=0∨l.getD j 0=1):plain l.length (num l)=l:=by
 apply R3 (FD _ _)
 intro j hj
 rw[FD] at hj
 rw[Wt _ _ _ hj,Ui l j hj]
 rcases h j hj with c | c <;> rw[c] <;> simp

def KW (n:Nat) (C:List (Int×Int)):Prop:=∀ r:List Int,r.length=n→Pg (runs r C)
theorem R4 {n:Nat} {C:List (Int×Int)} (hC:Gw n C):(∀ m,m < 2 ^ n→Pg (runs (plain n m) C))↔KW n C:=by
 refine⟨fun h r hr j h1 h2 h3=>?_,fun h m _=>h _ (FD n m)⟩
 rw[Eo] at h2
 let f:Int→Int:=fun x=>if (runs r C).getD (j - 1) 0≤x then 1 else 0
 have hf:mono f:=by
  intro a b hab
  simp only[f]
  by_cases c1:(runs r C).getD (j - 1) 0≤a
  ·rw[if_pos c1,if_pos (Int.le_trans c1 hab)];exact Int.le_refl _
  ·rw[if_neg c1];split <;> omega
 have hm:=JO hf C r hC hr
 have hp:plain n (num (r.map f))=r.map f:=by
  have hh:=Ps (r.map f) (fun j hj=>by
   rw[getD_map f r j (by simpa using hj)]
   simp only[f]
   split
   ·exact .inr rfl
   ·exact .inl rfl)
  rw[List.length_map,hr] at hh
  exact hh
 have hl:=Qz (r.map f)
 rw[List.length_map,hr] at hl
 have:=h _ hl j h1 (by rw[Eo,FD];omega)
 rw[hp,hm,getD_map f _ j (by rw[Eo];omega),getD_map f _ (j - 1) (by rw[Eo];omega)] at this
 apply this
 simp only[f]
 rw[if_pos (Int.le_refl _),if_neg (by omega)]
 decide

theorem K9 (r:List Int) (A:Nat) (hA:A < r.length):r.set A (r.getD A 0)=r:=by
 have:r.getD A 0=r[A]:=by simp[hA]
 rw[this];simp
end Go.TM
set_option maxRecDepth 100000
namespace Go.TM

def bit (b:List Nat) (lane m:Nat):Bool:=(b.getD (lane*2+m / 64) 0).testBit (m % 64)
def Fp (b:List Nat) (n m:Nat):List Int:=(List.range n).map fun lane=>if bit b lane m then 1 else 0
theorem Jc (b:List Nat) (n m:Nat):(Fp b n m).length=n:=by simp[Fp]
theorem Gp (b:List Nat) (n m j:Nat) (hj:j < n):(Fp b n m).getD j 0=if bit b j m then 1 else 0:=by
 simp[Fp,List.getD_eq_getElem?_getD,hj]
def Jw (b:List Nat) (A B k:Nat):List Nat:=(b.set (A*2+k) (Nat.land (b.getD (A*2+k) 0) (b.getD (B*2+k) 0))).set (B*2+k) (Nat.lor (b.getD (A*2+k) 0) (b.getD (B*2+k) 0))
def pass (b:List Nat) (p:Int×Int):List Nat:=Jw (Jw b p.1.toNat p.2.toNat 0) p.1.toNat p.2.toNat 1
def Fb (b:List Nat) (C:List (Int×Int)):List Nat:=C.foldl pass b
def wd (b:List Nat):Prop:=b.length=14∧∀ x∈b,x < 2 ^ 64
theorem FL {b:List Nat} (h:wd b) (i:Nat):b.getD i 0 < 2 ^ 64:=by
 rw[List.getD_eq_getElem?_getD]
 by_cases hi:i < b.length
 ·rw[List.getElem?_eq_getElem hi];exact h.2 _ (List.getElem_mem hi)
 ·rw[List.getElem?_eq_none (by omega)];decide
theorem Wu {b:List Nat} (h:wd b) (i v:Nat) (hv:v < 2 ^ 64):wd (b.set i v):=by
 refine⟨by rw[List.length_set];exact h.1,fun x hx=>?_⟩
 rcases List.mem_or_eq_of_mem_set hx with c | c
 ·exact h.2 x c
 ·rw[c];exact hv
theorem Uj {a b n:Nat} (ha:a < 2 ^ n):Nat.land a b < 2 ^ n:=Nat.lt_of_le_of_lt Nat.and_le_left ha
theorem SE {a b n:Nat} (ha:a < 2 ^ n) (hb:b < 2 ^ n):Nat.lor a b < 2 ^ n:=Nat.or_lt_two_pow ha hb
theorem Iq {b:List Nat} (h:wd b) (A B k:Nat):wd (Jw b A B k):=
 Wu (Wu h _ _ (Uj (FL h _))) _ _ (SE (FL h _) (FL h _))
theorem KT {b:List Nat} (h:wd b) (p:Int×Int):wd (pass b p):=Iq (Iq h _ _ _) _ _ _
theorem FX:∀ (C:List (Int×Int)) (b:List Nat),wd b→wd (Fb b C)
 | [],b,h=>h
 | p::C,b,h=>FX C (pass b p) (KT h p)
theorem R5 (r:List Nat) (i j v:Nat) (hi:i < r.length):(r.set i v).getD j 0=if j=i then v else r.getD j 0:=by
 simp only[List.getD_eq_getElem?_getD,List.getElem?_set]
 by_cases h:i=j
 ·subst h;simp[hi]
 ·have h':¬ j=i:=fun e=>h e.symm
  simp[h,h']
theorem LJ {b:List Nat} (h:wd b) {A B k:Nat} (hAB:A < B) (hB:B < 7) (hk:k < 2) (j:Nat) :
 (Jw b A B k).getD j 0=if j=B*2+k then Nat.lor (b.getD (A*2+k) 0) (b.getD (B*2+k) 0) else if j=A*2+k then Nat.land (b.getD (A*2+k) 0) (b.getD (B*2+k) 0) else b.getD j 0:=by
 have:=h.1
 unfold Jw
 rw[R5 _ _ _ _ (by simp;omega),R5 _ _ _ _ (by omega)]
theorem R6 {b:List Nat} (h:wd b) {p:Int×Int} {n:Nat} (hp:W9 n p) (hn:n≤7) (lane m:Nat) (hm:m < 128) :
 bit (pass b p) lane m=if lane=p.2.toNat then (bit b p.1.toNat m || bit b p.2.toNat m) else if lane=p.1.toNat then (bit b p.1.toNat m && bit b p.2.toNat m) else bit b lane m:=by
 obtain⟨h1,h2,h3⟩:=hp
 have hAB:p.1.toNat < p.2.toNat:=by omega
 have hB:p.2.toNat < 7:=by omega
 unfold pass
 generalize p.1.toNat=A at *
 generalize p.2.toNat=B at *
 have hq:m / 64=0∨m / 64=1:=by omega
 have e:∀ k,k < 2→m / 64=k→bit (Jw b A B k) lane m=if lane=B then (bit b A m || bit b B m) else if lane=A then (bit b A m && bit b B m) else bit b lane m:=by
  intro k hk e
  unfold bit
  rw[LJ h hAB hB hk,e]
  by_cases c1:lane=B
  ·rw[if_pos c1,if_pos (by omega)];exact Nat.testBit_or ..
  ·rw[if_neg c1,if_neg (by omega)]
   by_cases c2:lane=A
   ·rw[if_pos c2,if_pos (by omega)];exact Nat.testBit_and ..
   ·rw[if_neg c2,if_neg (by omega)]
 have o:∀ b',wd b'→∀ k,k < 2→m / 64≠k→∀ l,bit (Jw b' A B k) l m=bit b' l m:=by
  intro b' h' k hk e l
  unfold bit
  rw[LJ h' hAB hB hk,if_neg (by omega),if_neg (by omega)]
 show bit (Jw (Jw b A B 0) A B 1) lane m=_
 rcases hq with c | c
 ·rw[o _ (Iq h _ _ _) 1 (by omega) (by omega)]
  exact e 0 (by omega) c
 ·have e1:=o b h 0 (by omega) (by omega)
  have w1:=Iq h A B 0
  unfold bit
  rw[LJ w1 hAB hB (by omega),c]
  have f:∀ l,(Jw b A B 0).getD (l*2+1) 0=b.getD (l*2+1) 0:=by
   intro l
   rw[LJ h hAB hB (by omega),if_neg (by omega),if_neg (by omega)]
  rw[f A,f B,f lane]
  by_cases c1:lane=B
  ·rw[if_pos c1,if_pos (by omega)];exact Nat.testBit_or ..
  ·rw[if_neg c1,if_neg (by omega)]
   by_cases c2:lane=A
   ·rw[if_pos c2,if_pos (by omega)];exact Nat.testBit_and ..
   ·rw[if_neg c2,if_neg (by omega)]
theorem LX {b:List Nat} (h:wd b) {p:Int×Int} {n:Nat} (hp:W9 n p) (hn:n≤7) (m:Nat) (hm:m < 128):Fp (pass b p) n m=K8 (Fp b n m) p:=by
 have hp2:=hp
 obtain⟨h1,h2,h3⟩:=hp2
 apply R3 (by rw[Gn,Jc,Jc])
 intro j hj
 rw[Jc] at hj
 rw[Gp _ _ _ _ hj,Wp hp (Jc b n m),R6 h hp hn j m hm,Gp _ _ _ p.1.toNat (by omega),Gp _ _ _ p.2.toNat (by omega),Gp _ _ _ j hj]
 by_cases c1:j=p.2.toNat
 ·rw[if_pos c1,if_pos c1]
  cases bit b p.1.toNat m <;> cases bit b p.2.toNat m <;> decide
 ·rw[if_neg c1,if_neg c1]
  by_cases c2:j=p.1.toNat
  ·rw[if_pos c2,if_pos c2]
   cases bit b p.1.toNat m <;> cases bit b p.2.toNat m <;> decide
  ·rw[if_neg c2,if_neg c2]
theorem Jd {n:Nat} (hn:n≤7) (m:Nat) (hm:m < 128):∀ (C:List (Int×Int)) (b:List Nat),wd b→Gw n C→Fp (Fb b C) n m=runs (Fp b n m) C
 | [],b,_,_=>rfl
 | p :: C, b, h, hC => by
  show Fp (Fb (pass b p) C) n m=_
  rw[Jd hn m hm C (pass b p) (KT h p) (fun q hq=>hC q (by simp[hq])),LX h (hC p (by simp)) hn m hm];rfl

def Dr (b:List Nat) (k:Nat):Nat→Nat→Nat
 | 0,_=>0
 | d+1,l=>Nat.lor (Nat.xor (b.getD ((l - 1)*2+k) 0) (Nat.land (b.getD ((l - 1)*2+k) 0) (b.getD (l*2+k) 0))) (Dr b k d (l+1))
theorem Ji (b:List Nat) (k i:Nat):∀ (d l:Nat),(Dr b k d l).testBit i=true↔∃ j,l≤j∧j < l+d∧(b.getD ((j - 1)*2+k) 0).testBit i=true∧(b.getD (j*2+k) 0).testBit i=false
 | 0, l => by
  rw[Dr,Nat.zero_testBit]
  simp only[Bool.false_eq_true,false_iff]
  rintro⟨j,h1,h2,_⟩;omega
 | d + 1, l => by
  have e:(Dr b k (d+1) l).testBit i=(((b.getD ((l - 1)*2+k) 0).testBit i ^^ ((b.getD ((l - 1)*2+k) 0).testBit i && (b.getD (l*2+k) 0).testBit i)) || (Dr b k d (l+1)).testBit i):=by
   rw[Dr]
   rw[show ∀ x y,(Nat.lor x y).testBit i=(x.testBit i || y.testBit i) from fun x y=>Nat.testBit_or ..]
   rw[show ∀ x y,(Nat.xor x y).testBit i=(x.testBit i ^^ y.testBit i) from fun x y=>Nat.testBit_xor ..]
   rw[show ∀ x y,(Nat.land x y).testBit i=(x.testBit i && y.testBit i) from fun x y=>Nat.testBit_and ..]
  rw[e,Bool.or_eq_true,Ji b k i d (l+1)]
  constructor
  ·rintro(h | ⟨j,h1,h2,h3⟩)
   ·refine⟨l,Nat.le_refl _,by omega,?_⟩
    revert h
    cases (b.getD ((l - 1)*2+k) 0).testBit i <;> cases (b.getD (l*2+k) 0).testBit i <;> simp
   ·exact⟨j,by omega,by omega,h3⟩
  ·rintro⟨j,h1,h2,h3,h4⟩
   by_cases c:j=l
   ·subst c;left;rw[h3,h4];rfl
   ·exact .inr ⟨j,by omega,by omega,h3,h4⟩
theorem Ir {b:List Nat} {n m:Nat} (hn:1≤n):Pg (Fp b n m)↔(Dr b (m / 64) (n - 1) 1).testBit (m % 64)=false:=by
 constructor
 ·intro h
  rw[←Bool.not_eq_true]
  intro hb
  obtain⟨j,h1,h2,h3,h4⟩:=(Ji b _ _ _ _).1 hb
  have:=h j h1 (by rw[Jc];omega)
  rw[Gp _ _ _ _ (by omega),Gp _ _ _ _ (by omega)] at this
  unfold bit at this
  rw[h3,h4] at this
  simp at this
 ·intro h j h1 h2 h3
  rw[Jc] at h2
  rw[Gp _ _ _ _ h2,Gp _ _ _ _ (by omega)] at h3
  rw[←Bool.not_eq_true] at h
  apply h
  refine(Ji b _ _ _ _).2 ⟨j,h1,by omega,?_⟩
  unfold bit at h3
  revert h3
  cases (b.getD ((j - 1)*2+m / 64) 0).testBit (m % 64) <;> cases (b.getD (j*2+m / 64) 0).testBit (m % 64) <;> simp
theorem Jj {b:List Nat} {n:Nat} (hb:wd b) (hn:1≤n):(∀ m,m < 128→Pg (Fp b n m))↔Dr b 0 (n - 1) 1=0∧Dr b 1 (n - 1) 1=0:=by
 constructor
 ·intro h
  have key:∀ k,k < 2→Dr b k (n - 1) 1=0:=by
   intro k hk
   apply Nat.eq_of_testBit_eq
   intro i
   rw[Nat.zero_testBit]
   by_cases hi:i < 64
   ·have:=(Ir hn).1 (h (64*k+i) (by omega))
    rw[show (64*k+i) / 64=k by omega,show (64*k+i) % 64=i by omega] at this
    exact this
   ·rw[←Bool.not_eq_true]
    intro hh
    obtain⟨j,_,_,h3,_⟩:=(Ji b _ _ _ _).1 hh
    rw[Nat.testBit_lt_two_pow (Nat.lt_of_lt_of_le (FL hb _) (Nat.pow_le_pow_right (by omega) (by omega)))] at h3
    exact Bool.noConfusion h3
  exact⟨key 0 (by omega),key 1 (by omega)⟩
 ·rintro⟨h0,h1⟩ m hm
  rw[Ir hn]
  rcases(show m / 64=0∨m / 64=1 by omega) with c | c <;> rw[c] <;> simp[h0,h1]
def Je (n:Nat) (b:List Nat):Prop:=wd b∧(∀ m,m < 2 ^ n→Fp b n m=plain n m)∧∀ m,2 ^ n≤m→m < 128→Fp b n m=plain n 0
theorem LY {n:Nat} {b:List Nat} (h1:1≤n) (h7:n≤7) (hb:Je n b) {C:List (Int×Int)} (hC:Gw n C):(Dr (Fb b C) 0 (n - 1) 1=0∧Dr (Fb b C) 1 (n - 1) 1=0)↔KW n C:=by
 rw[←Jj (FX C b hb.1) h1,←R4 hC]
 have hp:2 ^ n≤128:=(Nat.pow_le_pow_right (by omega) h7:2 ^ n≤2 ^ 7)
 constructor
 ·intro h m hm
  have:=h m (by omega)
  rwa [Jd h7 m (by omega) C b hb.1 hC,hb.2.1 m hm] at this
 ·intro h m hm
  rw[Jd h7 m hm C b hb.1 hC]
  by_cases c:m < 2 ^ n
  ·rw[hb.2.1 m c];exact h m c
  ·rw[hb.2.2 m (by omega) hm];exact h 0 (Nat.two_pow_pos n)
end Go.TM
set_option maxRecDepth 100000
namespace Go.TbWM
open Go.Sp Go.TbW Go.TM

theorem p20 (n:Nat) (a b c:Int):BI (n+1) 65 [I a,I b,I c]=some (Value.bool (decide (a≤b) && decide (b≤c))):=by
 show bb (nt (AY b a)) (some (Value.bool (nt (AY c b)))) (some (Value.bool false))=_
 by_cases h1:a≤b <;> by_cases h2:b≤c <;> simp[JY,h1,h2,show (b < a)↔¬ a≤b from by omega,show (c < b)↔¬ b≤c from by omega]
theorem C8 {a b:Nat} (h:a < b):AY (Int.ofNat a) (Int.ofNat b)=true:=by simp[JY,h]
theorem CY {a b:Nat} (h:¬ a < b):AY (Int.ofNat a) (Int.ofNat b)=false:=by simp[JY];omega
theorem Ph {x y:Int}:(AY x y=true↔x < y):=by rw[JY,decide_eq_true_iff]
theorem OW {x y:Int}:(AY x y=false↔¬ x < y):=by rw[JY,decide_eq_false_iff_not]
theorem ZG (a b:Int):bb (AY b a) b a=min a b:=by
 by_cases h:b < a
 ·rw[Ph.2 h,Ak];omega
 ·rw[OW.2 h,AA];omega
theorem ZH (a b:Int):bb (AY a b) b a=max a b:=by
 by_cases h:a < b
 ·rw[Ph.2 h,Ak];omega
 ·rw[OW.2 h,AA];omega
theorem nU (x:Int):Bd x x=true:=by simp[Lr]
theorem Wv {x y:Int} (h:x≠y):nt (Bd x y)=true:=by simp[Lr,h]
theorem OX (x:Int):nt (Bd x x)=false:=by simp[Lr]
theorem Ww {x y:Int} (h:x≠y):Bd x y=false:=by simp[Lr,h]

noncomputable def oQ (p:Prop) (a b:Int):Int:=@ite _ p (Classical.propDecidable p) a b
theorem OY {p:Prop} {a b:Int} (h:p):oQ p a b=a:=if_pos h
theorem R7 {p:Prop} {a b:Int} (h:¬ p):oQ p a b=b:=if_neg h
noncomputable def JN (p:Prop):Bool:=@decide p (Classical.propDecidable p)
theorem Fh {p:Prop} (h:p):JN p=true:=@decide_eq_true p (Classical.propDecidable p) h
theorem FK {p:Prop} (h:¬ p):JN p=false:=@decide_eq_false p (Classical.propDecidable p) h
theorem Gm {p q:Prop} (h:p↔q):JN p=JN q:=by rw[propext h]

def pc (C:List (Int×Int)):List Value:=C.flatMap fun p=>[I p.1,I p.2]
def cl (fl:Nat) (C:List (Int×Int)):Sl:=⟨C.length,fl,pc C⟩
@[simp] theorem LZ (fl:Nat) (C:List (Int×Int)):(cl fl C).n=C.length:=rfl
@[simp] theorem M8 (fl:Nat) (C:List (Int×Int)):(cl fl C).cs=pc C:=rfl
theorem Gu (C:List (Int×Int)):(pc C).length=C.length*2:=by
 induction C with
 | nil=>rfl
 | cons p C ih=>simp only[pc,List.flatMap_cons,List.length_append,List.length_cons,List.length_nil] at ih ⊢;omega
theorem JP:∀ (C:List (Int×Int)) (i:Nat) (h:i < C.length),(pc C)[i*2]?=some (I C[i].1)∧(pc C)[i*2+1]?=some (I C[i].2)
 | [],i,h=>by simp at h
 | p::C,0,_=>⟨rfl,rfl⟩
 | p :: C, i + 1, h => by
  have ih:=JP C i (by simpa using h)
  have e:pc (p::C)=I p.1::I p.2::pc C:=rfl
  have e2:(i+1)*2=i*2+1+1:=by omega
  rw[e,e2]
  simp only[List.getElem?_cons_succ,List.getElem_cons_succ]
  exact ih
def tb (fl:Nat) (k:Int) (C:List (Int×Int)):Value:=.agg ⟨[I k,Sl.v 2 (cl fl C)]⟩

def nV (k:Int) (p:Int×Int):Prop:=0≤p.1∧p.1 < k∧0≤p.2∧p.2 < k
noncomputable def go (k:Int):List (Int×Int)→Int
 | []=>0
 | p::r=>oQ (nV k p) (oQ (p.1 < p.2) (go k r) 7) 2
noncomputable def ZI (k:Int) (C:List (Int×Int)):Int:=oQ (1≤k∧k≤7) (oQ (24 < C.length) 3 (go k C)) 1

theorem l40 (pu:Af) (n fl:Nat) (k:Int) (C:List (Int×Int)) (hC:C.length < 1000):∀ (f i:Nat),C.length - i < f→i≤C.length →
 OD pu n f (cl fl C) (Int.ofNat C.length) (Int.ofNat i) k (cl fl C)=some (I (go k (C.drop i))):=by
 intro f
 induction f with
 | zero=>intro i h;omega
 | succ f ih =>
  intro i h hi
  show RQ pu n (OD pu n f) _ _ _ _ _=_
  unfold RQ
  by_cases hlt:i < C.length
  ·obtain⟨g1,g2⟩:=JP C i hlt
   have e:C.drop i=C[i]::C.drop (i+1):=List.drop_eq_getElem_cons hlt
   have hb:Nat.ble (i*2+2) (len (pc C))=true:=by rw[ble_eq,AV,Gu];simp;omega
   rw[C8 hlt]
   simp only[Ak,Cx,Ac,LZ,M8,blt_eq,hlt,decide_true,CF,Bool.true_and,hb,BZ,g1,g2,BP,ZG,ZH]
   rw[e]
   unfold go RP
   by_cases c:nV k C[i]
   ·have c':=c
    obtain⟨c1,c2,c3,c4⟩:=c'
    rw[OW.2 (show ¬ min C[i].1 C[i].2 < 0 by omega),Ph.2 (show max C[i].1 C[i].2 < k by omega),OY c]
    simp only[AA,Km,Bool.not_true,DC i (by omega:i < 1000000)]
    by_cases c5:C[i].1 < C[i].2
    ·rw[Ph.2 c5,OY c5]
     exact ih (i+1) (by omega) (by omega)
    ·rw[OW.2 c5,R7 c5];rfl
   ·rw[R7 c]
    by_cases c1:min C[i].1 C[i].2 < 0
    ·rw[Ph.2 c1];rfl
    ·rw[OW.2 c1,OW.2 (show ¬ max C[i].1 C[i].2 < k from fun h9=>c ⟨by omega,by omega,by omega,by omega⟩)];rfl
  ·have:i=C.length:=by omega
   subst this
   rw[CY hlt,AA,List.drop_length];rfl
theorem p40 (n fl:Nat) (k:Int) (C:List (Int×Int)):BI (n+2) 55 [tb fl k C]=some (I (ZI k C)):=by
 show oo (BI (n+1) 65 [I 1,I k,I 7]) none (fun v=>oo (Bf v) none fun b=>bb (nt b) (some (I 1)) (bb (AY 24 (Int.ofNat C.length)) (some (I 3)) (OD (BI (n+1)) 1000000 1000000 (cl fl C) (Int.ofNat C.length) (Int.ofNat 0) k (cl fl C))))=_
 rw[p20]
 simp only[Ac,BU]
 unfold ZI
 by_cases hk:1≤k∧k≤7
 ·have d:(decide ((1:Int)≤k) && decide (k≤7))=true:=by simp;omega
  rw[d,OY hk]
  simp only[Km,Bool.not_true,AA]
  by_cases h1:24 < C.length
  ·rw[OY h1,Ph.2 (show (24:Int) < Int.ofNat C.length by show (24:Int) < (C.length:Int);omega)];rfl
  ·rw[R7 h1,OW.2 (show ¬ (24:Int) < Int.ofNat C.length by show ¬ (24:Int) < (C.length:Int);omega),AA]
   exact l40 (BI (n+1)) 1000000 fl k C (by omega) 1000000 0 (by omega) (by omega)
 ·have d:(decide ((1:Int)≤k) && decide (k≤7))=false:=by simp;omega
  rw[d,R7 hk];rfl

theorem ZJ {N:Nat}:∀ (C:List (Int×Int)),Gw N C→go (Int.ofNat N) C=0
 | [],_=>rfl
 | p :: C, h => by
  obtain⟨h1,h2,h3⟩:=h p (by simp)
  unfold go
  rw[OY (show nV (Int.ofNat N) p from ⟨h1,Int.lt_trans h2 h3,by omega,h3⟩),OY h2]
  exact ZJ C fun q hq=>h q (by simp[hq])
theorem OZ {N:Nat} {C:List (Int×Int)} (h1:1≤N) (h7:N≤7) (hl:C.length≤24) (hC:Gw N C):ZI (Int.ofNat N) C=0:=by
 unfold ZI
 rw[OY ⟨by show (1:Int)≤(N:Int);omega,by show (N:Int)≤7;omega⟩,R7 (by omega),ZJ C hC]

end Go.TbWM
set_option maxRecDepth 100000
namespace Go.TbWM
open Go.Sp Go.TbW Go.TM

noncomputable def U (x:Nat):Value:=.int .u64 (Int.ofNat x)
noncomputable def W (b:List Nat):List Value:=b.map U
theorem FY (b:List Nat):(W b).length=b.length:=by simp[W]
theorem Dy (b:List Nat):Au Ah (W b)=true:=by
 rw[Bh,List.all_eq_true];intro x hx;simp[W] at hx;obtain⟨z,_,rfl⟩:=hx;rfl
theorem Nc (b:List Nat):Au D6 (W b)=true:=by
 rw[Bh,List.all_eq_true];intro x hx;simp[W] at hx;obtain⟨z,_,rfl⟩:=hx;rfl
theorem Uk (b:List Nat) (i:Nat) (h:i < b.length):AL (W b) i=some (U (b.getD i 0)):=by
 rw[BZ];simp[W,h]
theorem ZK (b:List Nat) (i v:Nat) (h:i < b.length):BM ([U v]:List Value) i (W b)=W (b.set i v):=by
 have:∀ (i:Nat) (xs:List Value),i < xs.length→BM ([U v]:List Value) i xs=xs.set i (U v):=by
  intro i
  induction i with
  | zero => intro xs h; cases xs with
   | nil=>simp at h
   | cons x xs=>rfl
  | succ i ih => intro xs h; cases xs with
   | nil=>simp at h
   | cons x xs =>
    show x::BM [U v] i xs=x::xs.set i (U v)
    rw[ih xs (by simpa using h)]
 rw[this i _ (by rw[FY];exact h)]
 simp[W,List.map_set]
theorem toU (x:Nat):Bi .u64 (U x)=some (Int.ofNat x):=rfl
theorem Nf {q:List Value} (h:q.length=14):Aq 14 (Am 0 q)=q:=by
 rw[Cg,Bz,List.drop_zero,List.take_of_length_le (by omega)]
theorem O0 {q z:List Value} (h:q.length=14) (h2:z.length=14):BM q 0 z=q:=by
 show Br q (Am (len q) z)=q
 rw[BH,Bz,AV,List.drop_of_length_le (by omega),List.append_nil]
theorem Gv:BB.length=14:=rfl
theorem Pt:Au Ah BB=true:=rfl
theorem Wx {q:List Value} (h:q.length=14):Nat.ble (0+14) (len q)=true:=by rw[AV,h];rfl
theorem UJ {q:List Value} (h:q.length=14):Nat.beq (len q) 14=true:=by rw[AV,h];rfl
theorem UK {q:List Value} (h:q.length=14) (hc:Au Ah q=true):an (Nat.beq (len q) 14) (Au Ah q)=true:=by rw[UJ h,hc];rfl
theorem Wy {q z:List Value} (h:q.length=14) (h2:z.length=14) (hs:Au D6 q=true):an (Nat.ble (0+len q) (len z)) (Au D6 q)=true:=by
 rw[AV,AV,h,h2,hs];rfl
theorem clA (q:List Value) (h:Au Ah q=true):Fe (.agg ⟨q⟩)=true:=h

theorem ZL {q z:List Value} (h:q.length=14) (h2:z.length=14) (hc:Au Ah q=true) (hs:Au D6 q=true) :
 (bb (Nat.ble (0+14) (len q)) (bb (Nat.beq (len (Aq 14 (Am 0 q))) 14) (bb (an (Nat.ble (0+len (Aq 14 (Am 0 q))) (len z)) (Au D6 (Aq 14 (Am 0 q)))) (bb (Au Ah (BM (Aq 14 (Am 0 q)) 0 z)) (bb (Nat.ble (0+14) (len (BM (Aq 14 (Am 0 q)) 0 z))) (bb (Fe (.agg ⟨(Aq 14 (Am 0 (BM (Aq 14 (Am 0 q)) 0 z)))⟩)) (some (Value.agg ⟨(Aq 14 (Am 0 (BM (Aq 14 (Am 0 q)) 0 z)))⟩)) none) none) none) none) none) none)=some (.agg ⟨q⟩):=by
 rw[Nf h,O0 h h2,Nf h,Wx h,UJ h,Wy h h2 hs,hc,clA q hc]
 rfl

theorem ZM (x y:Nat) (hx:x < 2 ^ 64) (hy:y < 2 ^ 64):Np .u64 (Int.ofNat x) (Int.ofNat y)=Int.ofNat (Nat.land x y):=by
 show bb (Nl .u64 x y) (Int.ofNat (Nat.land x y)) _=_
 have:Nl .u64 x y=true:=by
  show an (Nat.ble x 18446744073709551615) (Nat.ble y 18446744073709551615)=true
  rw[Nat.ble_eq_true_of_le (by omega),Nat.ble_eq_true_of_le (by omega)];rfl
 rw[this];rfl
theorem Aas (x y:Nat) (hx:x < 2 ^ 64) (hy:y < 2 ^ 64):jF .u64 (Int.ofNat x) (Int.ofNat y)=Int.ofNat (Nat.lor x y):=by
 show bb (Nl .u64 x y) (Int.ofNat (Nat.lor x y)) _=_
 have:Nl .u64 x y=true:=by
  show an (Nat.ble x 18446744073709551615) (Nat.ble y 18446744073709551615)=true
  rw[Nat.ble_eq_true_of_le (by omega),Nat.ble_eq_true_of_le (by omega)];rfl
 rw[this];rfl
theorem Ab8 (x y:Nat) (hx:x < 2 ^ 64) (hy:y < 2 ^ 64):QV .u64 (Int.ofNat x) (Int.ofNat y)=Int.ofNat (Nat.xor x (Nat.land x y)):=by
 show bb (Nl .u64 x y) (Int.ofNat (Nat.xor x (Nat.land x y))) _=_
 have:Nl .u64 x y=true:=by
  show an (Nat.ble x 18446744073709551615) (Nat.ble y 18446744073709551615)=true
  rw[Nat.ble_eq_true_of_le (by omega),Nat.ble_eq_true_of_le (by omega)];rfl
 rw[this];rfl
theorem Wz {x y:Nat} (hx:x < 2 ^ 64) (hy:y < 2 ^ 64):Nat.xor x (Nat.land x y) < 2 ^ 64:=Nat.xor_lt_two_pow hx (Uj hx)

theorem Aat (pu:Af) (n:Nat) (ih:Int→List Value→Int→Int→List Value→Option Value) (b:List Nat) (hb:wd b) (A B k:Nat) (hAB:A < B) (hB:B < 7) (hk:k < 2) :
 MU pu n ih (Int.ofNat k) (W b) (Int.ofNat A) (Int.ofNat B) BB=ih (Int.ofNat (k+1)) (W (Jw b A B k)) (Int.ofNat A) (Int.ofNat B) BB:=by
 have hl:=hb.1
 unfold MU
 rw[Dy,Pt,show AY (Int.ofNat k) 2=true from C8 hk]
 have e1:(0+A*2)+k*1=A*2+k:=by omega
 have e2:(0+B*2)+k*1=B*2+k:=by omega
 have g1:=Uk b (A*2+k) (by omega)
 have g2:=Uk b (B*2+k) (by omega)
 have s1:BM ([(.int .u64 (Int.ofNat (Nat.land (b.getD (A*2+k) 0) (b.getD (B*2+k) 0))))]:List Value) (A*2+k) (W b)=W (b.set (A*2+k) (Nat.land (b.getD (A*2+k) 0) (b.getD (B*2+k) 0))):=ZK b _ _ (by omega)
 have s2:BM ([(.int .u64 (Int.ofNat (Nat.lor (b.getD (A*2+k) 0) (b.getD (B*2+k) 0))))]:List Value) (B*2+k) (W (b.set (A*2+k) (Nat.land (b.getD (A*2+k) 0) (b.getD (B*2+k) 0))))=W (Jw b A B k):=ZK _ _ _ (by simp;omega)
 have c1:an (Nat.ble (A*2+k+1) (len (W b))) true=true:=by rw[AV,FY,Nat.ble_eq_true_of_le (by omega)];rfl
 have c2:an (Nat.ble (B*2+k+1) (len (W (b.set (A*2+k) (Nat.land (b.getD (A*2+k) 0) (b.getD (B*2+k) 0)))))) true=true:=by rw[AV,FY,List.length_set,Nat.ble_eq_true_of_le (by omega)];rfl
 simp only[Ak,Cx,Ac,blt_eq,show A < 7 from by omega,hB,hk,decide_true,e1,e2,g1,g2,toU,ZM _ _ (FL hb _) (FL hb _),Aas _ _ (FL hb _) (FL hb _),s1,s2,c1,c2,Dy,DC k (by omega)]
theorem Ab9 (pu:Af) (n:Nat) (ih:Int→List Value→Int→Int→List Value→Option Value) (b:List Nat) (hb:wd b) (A B:Int):MU pu n ih (Int.ofNat 2) (W b) A B BB=some (.agg ⟨W b⟩):=by
 unfold MU
 rw[Dy,Pt,show AY (Int.ofNat 2) 2=false from rfl]
 simp only[Ak,AA]
 exact ZL (by rw[FY];exact hb.1) Gv (Dy b) (Nc b)
theorem WA (pu:Af) (n f:Nat) (a b:Int) (q z:List Value) (k:Int):Pp pu n (f+1) k q a b z=MU pu n (Pp pu n f) k q a b z:=rfl
theorem p51 (n:Nat) (b:List Nat) (hb:wd b) (p:Int×Int) (m:Nat) (hp:W9 m p) (hm:m≤7):BI (n+1) 57 [.agg ⟨W b⟩,.agg ⟨[I p.1,I p.2]⟩]=some (.agg ⟨W (pass b p)⟩):=by
 obtain⟨h1,h2,h3⟩:=hp
 have e:BI (n+1) 57 [.agg ⟨W b⟩,.agg ⟨[I p.1,I p.2]⟩]=bb (an (Nat.beq (len (W b)) 14) (Au Ah (W b))) (XK (BI n) 1000000 (W b) p.1 p.2) none:=by kernel_rfl
 rw[e,UK (by rw[FY];exact hb.1) (Dy b),Ak]
 unfold XK
 rw[Dy,Pt,Ak,Ak]
 show Pp (BI n) 1000000 (999997+1+1+1) (Int.ofNat 0) (W b) p.1 p.2 BB=_
 have ea:p.1=Int.ofNat p.1.toNat:=(Int.toNat_of_nonneg h1).symm
 have eb:p.2=Int.ofNat p.2.toNat:=(Int.toNat_of_nonneg (by omega)).symm
 rw[ea,eb]
 have hAB:p.1.toNat < p.2.toNat:=by omega
 have hB:p.2.toNat < 7:=by omega
 rw[WA,Aat _ _ _ b hb _ _ 0 hAB hB (by omega),WA,Aat _ _ _ _ (Iq hb _ _ _) _ _ 1 hAB hB (by omega),WA,Ab9 _ _ _ _ (Iq (Iq hb _ _ _) _ _ _)]
 rfl

theorem l44 (m n fl N:Nat) (C:List (Int×Int)) (hN:N≤7) (hC:Gw N C) (hCl:C.length < 1000):∀ (f i:Nat) (b:List Nat),wd b→C.length - i < f→i≤C.length →
 RU (BI (m+1)) n f (cl fl C) (Int.ofNat C.length) (Int.ofNat i) (W b) BB=some (.agg ⟨W (Fb b (C.drop i))⟩):=by
 intro f
 induction f with
 | zero=>intro i b hb h;omega
 | succ f ih =>
  intro i b hb h hi
  show RS (BI (m+1)) n (RU (BI (m+1)) n f) _ _ _ _ _=_
  unfold RS
  have hl:(W b).length=14:=by rw[FY];exact hb.1
  rw[Dy,Pt]
  by_cases hlt:i < C.length
  ·obtain⟨g1,g2⟩:=JP C i hlt
   have e:C.drop i=C[i]::C.drop (i+1):=List.drop_eq_getElem_cons hlt
   have hbb:Nat.ble (i*2+2) (len (pc C))=true:=by rw[ble_eq,AV,Gu];simp;omega
   have hw:=KT hb C[i]
   have hl2:(W (pass b C[i])).length=14:=by rw[FY];exact hw.1
   have q:=p51 m b hb C[i] N (hC _ (List.getElem_mem hlt)) hN
   have hcl2:Au closed2 [(.agg ⟨W b⟩:Value),(.agg ⟨[(.int .i64 C[i].1),(.int .i64 C[i].2)]⟩)]=true:=by
    show an (Au Ah (W b)) _=true
    rw[Dy];rfl
   rw[C8 hlt]
   simp only[Ak,Cx,Ac,LZ,M8,blt_eq,hlt,decide_true,CF,Bool.true_and,hbb,BZ,g1,g2,BP,Wx hl,Nf hl,q,RL,hcl2]
   simp only[←CF,UK hl2 (Dy _),UJ hl2,Wy hl2 hl (Nc _),O0 hl2 hl,Dy,Ak,DC i (by omega:i < 1000000)]
   rw[ih (i+1) (pass b C[i]) hw (by omega) (by omega),e];rfl
  ·have:i=C.length:=by omega
   subst this
   rw[CY hlt,List.drop_length]
   simp only[Ak,AA]
   exact ZL hl Gv (Dy b) (Nc b)
theorem p44 (n fl N:Nat) (b:List Nat) (hb:wd b) (C:List (Int×Int)) (hN:N≤7) (hC:Gw N C) (hCl:C.length < 1000):BI (n+2) 60 [.agg ⟨W b⟩,(cl fl C).v 2]=some (.agg ⟨W (Fb b C)⟩):=by
 have e:BI (n+2) 60 [.agg ⟨W b⟩,(cl fl C).v 2]=bb (an (Nat.beq (len (W b)) 14) (Au Ah (W b))) (XL (BI (n+1)) 1000000 (W b) (cl fl C)) none:=by kernel_rfl
 rw[e,UK (by rw[FY];exact hb.1) (Dy b),Ak]
 unfold XL
 rw[Dy,Pt,Ak,Ak]
 exact l44 n 1000000 fl N C hN hC hCl 1000000 0 b hb (by omega) (by omega)
end Go.TbWM
set_option maxRecDepth 100000
namespace Go.TbWM
open Go.Sp Go.TbW Go.TM
def A1:List Nat:=[2,0,0,0,0,0,0,0,0,0,0,0,0,0]
theorem Aca (n:Nat):BI (n+1) 56 [I 1]=some (.agg ⟨W A1⟩):=by kernel_rfl
def A2:List Nat:=[12,0,10,0,0,0,0,0,0,0,0,0,0,0]
theorem Acb (n:Nat):BI (n+1) 56 [I 2]=some (.agg ⟨W A2⟩):=by kernel_rfl
def A3:List Nat:=[240,0,204,0,170,0,0,0,0,0,0,0,0,0]
theorem Acc (n:Nat):BI (n+1) 56 [I 3]=some (.agg ⟨W A3⟩):=by kernel_rfl
def A4:List Nat:=[65280,0,61680,0,52428,0,43690,0,0,0,0,0,0,0]
theorem Acd (n:Nat):BI (n+1) 56 [I 4]=some (.agg ⟨W A4⟩):=by kernel_rfl
def A5:List Nat:=[4294901760,0,4278255360,0,4042322160,0,3435973836,0,2863311530,0,0,0,0,0]
theorem Ace (n:Nat):BI (n+1) 56 [I 5]=some (.agg ⟨W A5⟩):=by kernel_rfl
def A6:List Nat:=[18446744069414584320,0,18446462603027742720,0,18374966859414961920,0,17361641481138401520,0,14757395258967641292,0,12297829382473034410,0,0,0]
theorem Acf (n:Nat):BI (n+1) 56 [I 6]=some (.agg ⟨W A6⟩):=by kernel_rfl
def A7:List Nat:=[0,18446744073709551615,18446744069414584320,18446744069414584320,18446462603027742720,18446462603027742720,18374966859414961920,18374966859414961920,17361641481138401520,17361641481138401520,14757395258967641292,14757395258967641292,12297829382473034410,12297829382473034410]
theorem Acg (n:Nat):BI (n+1) 56 [I 7]=some (.agg ⟨W A7⟩):=by kernel_rfl
theorem is1:Je 1 A1:=by
 have h:=Rp (show NL (fun m=>decide (Fp A1 1 m=plain 1 m)) 2=true by kernel_rfl)
 have h2:=Rp (show NL (fun m=>decide (2≤m→Fp A1 1 m=plain 1 0)) 128=true by kernel_rfl)
 exact⟨⟨rfl,of_decide_eq_true (by kernel_rfl)⟩,fun m hm=>of_decide_eq_true (h m hm),fun m h1 hm=>of_decide_eq_true (h2 m hm) h1⟩
theorem is2:Je 2 A2:=by
 have h:=Rp (show NL (fun m=>decide (Fp A2 2 m=plain 2 m)) 4=true by kernel_rfl)
 have h2:=Rp (show NL (fun m=>decide (4≤m→Fp A2 2 m=plain 2 0)) 128=true by kernel_rfl)
 exact⟨⟨rfl,of_decide_eq_true (by kernel_rfl)⟩,fun m hm=>of_decide_eq_true (h m hm),fun m h1 hm=>of_decide_eq_true (h2 m hm) h1⟩
theorem is3:Je 3 A3:=by
 have h:=Rp (show NL (fun m=>decide (Fp A3 3 m=plain 3 m)) 8=true by kernel_rfl)
 have h2:=Rp (show NL (fun m=>decide (8≤m→Fp A3 3 m=plain 3 0)) 128=true by kernel_rfl)
 exact⟨⟨rfl,of_decide_eq_true (by kernel_rfl)⟩,fun m hm=>of_decide_eq_true (h m hm),fun m h1 hm=>of_decide_eq_true (h2 m hm) h1⟩
theorem is4:Je 4 A4:=by
 have h:=Rp (show NL (fun m=>decide (Fp A4 4 m=plain 4 m)) 16=true by kernel_rfl)
 have h2:=Rp (show NL (fun m=>decide (16≤m→Fp A4 4 m=plain 4 0)) 128=true by kernel_rfl)
 exact⟨⟨rfl,of_decide_eq_true (by kernel_rfl)⟩,fun m hm=>of_decide_eq_true (h m hm),fun m h1 hm=>of_decide_eq_true (h2 m hm) h1⟩
theorem is5:Je 5 A5:=by
 have h:=Rp (show NL (fun m=>decide (Fp A5 5 m=plain 5 m)) 32=true by kernel_rfl)
 have h2:=Rp (show NL (fun m=>decide (32≤m→Fp A5 5 m=plain 5 0)) 128=true by kernel_rfl)
 exact⟨⟨rfl,of_decide_eq_true (by kernel_rfl)⟩,fun m hm=>of_decide_eq_true (h m hm),fun m h1 hm=>of_decide_eq_true (h2 m hm) h1⟩
theorem is6:Je 6 A6:=by
 have h:=Rp (show NL (fun m=>decide (Fp A6 6 m=plain 6 m)) 64=true by kernel_rfl)
 have h2:=Rp (show NL (fun m=>decide (64≤m→Fp A6 6 m=plain 6 0)) 128=true by kernel_rfl)
 exact⟨⟨rfl,of_decide_eq_true (by kernel_rfl)⟩,fun m hm=>of_decide_eq_true (h m hm),fun m h1 hm=>of_decide_eq_true (h2 m hm) h1⟩
theorem is7:Je 7 A7:=by
 have h:=Rp (show NL (fun m=>decide (Fp A7 7 m=plain 7 m)) 128=true by kernel_rfl)
 have h2:=Rp (show NL (fun m=>decide (128≤m→Fp A7 7 m=plain 7 0)) 128=true by kernel_rfl)
 exact⟨⟨rfl,of_decide_eq_true (by kernel_rfl)⟩,fun m hm=>of_decide_eq_true (h m hm),fun m h1 hm=>of_decide_eq_true (h2 m hm) h1⟩
theorem O1 (N:Nat) (h1:1≤N) (h7:N≤7):∃ b,Je N b∧∀ n,BI (n+1) 56 [I (Int.ofNat N)]=some (.agg ⟨W b⟩):=by
 match N,h1,h7 with
 | 1,_,_=>exact⟨A1,is1,Aca⟩
 | 2,_,_=>exact⟨A2,is2,Acb⟩
 | 3,_,_=>exact⟨A3,is3,Acc⟩
 | 4,_,_=>exact⟨A4,is4,Acd⟩
 | 5,_,_=>exact⟨A5,is5,Ace⟩
 | 6,_,_=>exact⟨A6,is6,Acf⟩
 | 7,_,_=>exact⟨A7,is7,Acg⟩
 | N+8,_,h=>omega
end Go.TbWM
set_option maxRecDepth 100000
namespace Go.TbWM
open Go.Sp Go.TbW Go.TM

theorem SF:∀ (n x:Nat),x < n→0 < x→∃ t q,x=2 ^ t*(2*q+1)
 | 0,x,h,_=>by omega
 | n + 1, x, h, h0 => by
  by_cases hp:x % 2=1
  ·exact⟨0,x / 2,by omega⟩
  ·obtain⟨t,q,e⟩:=SF n (x / 2) (by omega) (by omega)
   refine⟨t+1,q,?_⟩
   rw[Nat.pow_succ,Nat.mul_assoc,Nat.mul_comm 2,←Nat.mul_assoc,←e];omega
theorem Ng (t q i:Nat):(2 ^ t*(2*q+1)).testBit i=(decide (t≤i) && (2*q+1).testBit (i - t)):=Nat.testBit_two_pow_mul ..
theorem WB (t q i:Nat):(2 ^ t*(2*q+1) - 1).testBit i=if i < t then true else if i=t then false else (2 ^ t*(2*q+1)).testBit i:=by
 have e:2 ^ t*(2*q+1) - 1=2 ^ t*(2*q)+(2 ^ t - 1):=by
  have:=Nat.two_pow_pos t
  rw[Nat.mul_add];omega
 rw[e,Nat.testBit_two_pow_mul_add _ (by have:=Nat.two_pow_pos t;omega)]
 by_cases h1:i < t
 ·rw[if_pos h1,if_pos h1,Nat.testBit_two_pow_sub_one];simp[h1]
 ·rw[if_neg h1,if_neg h1,Ng]
  by_cases h2:i=t
  ·subst h2;rw[if_pos rfl,Nat.sub_self];simp
  ·rw[if_neg h2]
   obtain⟨j,hj⟩:∃ j,i - t=j+1:=⟨i - t - 1,by omega⟩
   rw[hj,Nat.testBit_succ,Nat.testBit_succ]
   have h3:2*q / 2=q:=by omega
   have h4:(2*q+1) / 2=q:=by omega
   have h5:t≤i:=by omega
   simp[h3,h4,h5]
theorem X3 (t q:Nat) (hx:2 ^ t*(2*q+1) < 2 ^ 64):Nat.land (2 ^ t*(2*q+1)) (2 ^ 64 - 2 ^ t*(2*q+1))=2 ^ t:=by
 have h0:0 < 2 ^ t*(2*q+1):=Nat.mul_pos (Nat.two_pow_pos t) (by omega)
 apply Nat.eq_of_testBit_eq
 intro i
 rw[show (Nat.land (2 ^ t*(2*q+1)) (2 ^ 64 - 2 ^ t*(2*q+1))).testBit i=((2 ^ t*(2*q+1)).testBit i && (2 ^ 64 - 2 ^ t*(2*q+1)).testBit i) from Nat.testBit_and ..]
 have e:2 ^ 64 - 2 ^ t*(2*q+1)=2 ^ 64 - (2 ^ t*(2*q+1) - 1+1):=by omega
 rw[e,Nat.testBit_two_pow_sub_succ (by omega),WB,Nat.testBit_two_pow]
 by_cases h1:i < t
 ·rw[if_pos h1]
  have:¬ t=i:=by omega
  simp[this]
 ·rw[if_neg h1]
  by_cases h2:i=t
  ·subst h2
   have hi:i < 64:=by
    apply Nat.lt_of_not_le
    intro h3
    have:2 ^ 64≤2 ^ i:=Nat.pow_le_pow_right (by omega) h3
    have h6:2 ^ i*1≤2 ^ i*(2*q+1):=Nat.mul_le_mul_left _ (by omega)
    omega
   rw[if_pos rfl,Ng,Nat.sub_self]
   simp[hi]
  ·rw[if_neg h2]
   have:¬ t=i:=by omega
   cases (2 ^ t*(2*q+1)).testBit i <;> simp[this]
theorem QA (t q:Nat) (hx:2 ^ t*(2*q+1) < 2 ^ 64):t < 64:=by
 apply Nat.lt_of_not_le
 intro h3
 have:2 ^ 64≤2 ^ t:=Nat.pow_le_pow_right (by omega) h3
 have h6:2 ^ t*1≤2 ^ t*(2*q+1):=Nat.mul_le_mul_left _ (by omega)
 omega
noncomputable def eqI (o:Option Value) (z:Nat):Bool:=oo o false fun v=>oo (Bi .i64 v) false fun n=>Bd n (Int.ofNat z)
theorem nW {o:Option Value} {z:Nat} (h:eqI o z=true):o=some (I (Int.ofNat z)):=by
 unfold eqI at h
 cases o with
 | none=>cases h
 | some v =>
  rw[Ac] at h
  cases hs:Bi .i64 v with
  | none=>rw[hs] at h;cases h
  | some n =>
   rw[hs,Ac,Lr] at h
   rw[Eh hs,eq_of_beq h]
noncomputable def tz2 (y:Nat):Option Value:=
 oo (EA (G6 .u64 (Aj .u64 (Int.mul (Int.ofNat y) (285870213051353865:Int))) 58)) none fun k=>bb (Nat.blt k 64) (oo (AL Pe (0+k*1)) none fun v=>oo (Bi .u8 v) none fun x=>some (.int .i64 (Aj .i64 x))) none
theorem nX:NL (fun t=>eqI (tz2 (2 ^ t)) t) 64=true:=by kernel_rfl
theorem p47 (n t q:Nat) (hx:2 ^ t*(2*q+1) < 2 ^ 64):BI (n+1) 85 [U (2 ^ t*(2*q+1))]=some (I (Int.ofNat t)):=by
 have h0:0 < 2 ^ t*(2*q+1):=Nat.mul_pos (Nat.two_pow_pos t) (by omega)
 generalize hxe:2 ^ t*(2*q+1)=x at *
 have e:BI (n+1) 85 [U x]=XQ (BI n) 1000000 (Int.ofNat x):=by kernel_rfl
 rw[e];unfold XQ
 have hz:Bd (Int.ofNat x) 0=false:=Ww (by show (x:Int)≠0;omega)
 have hw:Aj .u64 (Int.sub (.ofNat 0) (Int.ofNat x))=Int.ofNat (2 ^ 64 - x):=by
  rw[IM,IntKind.wrap_u64]
  show ((0:Int) - (x:Int)) % 18446744073709551616=((2 ^ 64 - x:Nat):Int)
  omega
 rw[hz,AA,hw,ZM _ _ hx (by omega),←hxe,X3 t q (by rw[hxe];exact hx)]
 exact nW (Rp nX t (QA t q (by rw[hxe];exact hx)))

theorem L6 {b:List Nat} (hb:wd b) (k:Nat):∀ d l,Dr b k d l < 2 ^ 64
 | 0,l=>by simp[Dr]
 | d+1,l=>SE (Wz (FL hb _) (FL hb _)) (L6 hb k d (l+1))
theorem UL (a b c:Nat):Nat.lor (Nat.lor a b) c=Nat.lor a (Nat.lor b c):=Nat.or_assoc ..
theorem WC (a:Nat):Nat.lor a 0=a:=Nat.or_zero ..
theorem l22 (pu:Af) (n N k:Nat) (ih0:Int→Int→List Value→Option Value) (b:List Nat) (hb:wd b) (hN:N≤7) (hk:k < 2) (z:Int):∀ (f l w:Nat),N - l < f→1≤l→l≤N→w < 2 ^ 64 →
 RX pu n ih0 f (Int.ofNat N) (Int.ofNat k) (Int.ofNat w) (Int.ofNat l) z (W b)=KV pu n ih0 (Int.ofNat N) (Int.ofNat k) (Int.ofNat (Nat.lor w (Dr b k (N - l) l))) z (W b):=by
 intro f
 induction f with
 | zero=>intro l w h;omega
 | succ f ih =>
  intro l w h h1 hl hw
  show RV pu n ih0 (RX pu n ih0 f) _ _ _ _ _ _=_
  unfold RV
  rw[Dy]
  have hbl:=hb.1
  by_cases hlt:l < N
  ·have hp : Aj .i64 (Int.sub (Int.ofNat l) 1) = Int.ofNat (l - 1) := by
    show Aj .i64 (Int.ofNat l - 1)=_
    rw[Oe _ (by simp;omega) (by simp;omega)];simp;omega
   have g1:=Uk b ((l - 1)*2+k) (by omega)
   have g2:=Uk b (l*2+k) (by omega)
   have e1:(0+(l - 1)*2)+k*1=(l - 1)*2+k:=by omega
   have e2:(0+l*2)+k*1=l*2+k:=by omega
   have hx:=Wz (FL hb ((l - 1)*2+k)) (FL hb (l*2+k))
   rw[C8 hlt]
   simp only[Ak,hp,Cx,Ac,blt_eq,show l - 1 < 7 from by omega,show l < 7 from by omega,hk,decide_true,e1,e2,g1,g2,toU,Ab8 _ _ (FL hb _) (FL hb _),Aas _ _ hw hx,DC l (by omega)]
   rw[ih (l+1) _ (by omega) (by omega) (by omega) (SE hw hx),UL]
   have:N - l=(N - (l+1))+1:=by omega
   rw[this];rfl
  ·have:N=l:=by omega
   subst this
   rw[CY hlt,Ak,AA,Nat.sub_self]
   show _=KV pu n ih0 _ _ (Int.ofNat (Nat.lor w 0)) z (W b)
   rw[WC]
noncomputable def nY (N:Nat) (b:List Nat):Int→Prop:=fun z=>(z = -1∧Dr b 0 (N - 1) 1=0∧Dr b 1 (N - 1) 1=0)∨∃ k t q,k < 2∧z=Int.ofNat (64*k+t)∧Dr b k (N - 1) 1=2 ^ t*(2*q+1)∧t < 64∧(k=1→Dr b 0 (N - 1) 1=0)
theorem ZN (pu:Af) (n k:Nat) (ih0:Int→Int→List Value→Option Value) (b:List Nat) (N:Int):KV pu n ih0 N (Int.ofNat k) (Int.ofNat 0) (Int.ofNat k) (W b)=ih0 N (Aj .i64 (Int.add (Int.ofNat k) 1)) (W b):=by
 unfold KV Ug
 rw[Dy];rfl
theorem WE (m n k t q:Nat) (hk:k < 2) (ih0:Int→Int→List Value→Option Value) (b:List Nat) (N z:Int) (hx:2 ^ t*(2*q+1) < 2 ^ 64):KV (BI (m+1)) n ih0 N (Int.ofNat k) (Int.ofNat (2 ^ t*(2*q+1))) z (W b)=some (I (Int.ofNat (64*k+t))):=by
 have h0:0 < 2 ^ t*(2*q+1):=Nat.mul_pos (Nat.two_pow_pos t) (by omega)
 have ht:=QA t q hx
 have hz:nt (Bd (Int.ofNat (2 ^ t*(2*q+1))) 0)=true:=Wv (by show ((2 ^ t*(2*q+1):Nat):Int)≠0;omega)
 have hp:=p47 m t q hx
 unfold U at hp
 unfold KV
 rw[Dy]
 simp only[Ak,hz,hp,Ac,BP]
 have e:Aj .i64 (Int.add (Aj .i64 (Int.mul (64:Int) (Int.ofNat k))) (Int.ofNat t))=Int.ofNat (64*k+t):=by
  show Aj .i64 (Aj .i64 (64*(k:Int))+(t:Int))=((64*k+t:Nat):Int)
  rw[Oe (64*(k:Int)) (by omega) (by omega),Oe _ (by omega) (by omega)];simp
 rw[e]
theorem p22 (n N:Nat) (h1:1≤N) (h7:N≤7) (b:List Nat) (hb:wd b):∃ z,BI (n+2) 61 [.agg ⟨W b⟩,I (Int.ofNat N)]=some (I z)∧nY N b z:=by
 have e:BI (n+2) 61 [.agg ⟨W b⟩,I (Int.ofNat N)]=bb (an (Nat.beq (len (W b)) 14) (Au Ah (W b))) (XM (BI (n+1)) 1000000 (W b) (Int.ofNat N)) none:=by kernel_rfl
 rw[e,UK (by rw[FY];exact hb.1) (Dy b),Ak]
 unfold XM
 rw[Dy,Ak]
 have st:∀ (f k:Nat),k < 2→Gy (BI (n+1)) 1000000 (f+1) (Int.ofNat N) (Int.ofNat k) (W b)=KV (BI (n+1)) 1000000 (Gy (BI (n+1)) 1000000 f) (Int.ofNat N) (Int.ofNat k) (Int.ofNat (Dr b k (N - 1) 1)) (Int.ofNat k) (W b):=fun f k hk=>by
  show OG (BI (n+1)) 1000000 (Gy (BI (n+1)) 1000000 f) _ _ _=_
  unfold OG
  rw[Dy,show AY (Int.ofNat k) 2=true from C8 hk,Ak,Ak]
  have:=l22 (BI (n+1)) 1000000 N k (Gy (BI (n+1)) 1000000 f) b hb h7 hk (Int.ofNat k) 1000000 1 0 (by omega) (by omega) h1 (by decide)
  rw[show Nat.lor 0 (Dr b k (N - 1) 1)=Dr b k (N - 1) 1 from Nat.zero_or ..] at this
  exact this
 have en:∀ f,Gy (BI (n+1)) 1000000 (f+1) (Int.ofNat N) (Int.ofNat 2) (W b)=some (I (-1)):=fun f=>by
  show OG (BI (n+1)) 1000000 (Gy (BI (n+1)) 1000000 f) _ _ _=_
  unfold OG
  rw[Dy,show AY (Int.ofNat 2) 2=false from rfl,Ak,AA];rfl
 show ∃ z,Gy (BI (n+1)) 1000000 (999997+1+1+1) (Int.ofNat N) (Int.ofNat 0) (W b)=some (I z)∧_
 rw[st _ 0 (by omega)]
 by_cases w0:Dr b 0 (N - 1) 1=0
 ·rw[w0,ZN,DC 0 (by omega),st _ 1 (by omega)]
  by_cases w1:Dr b 1 (N - 1) 1=0
  ·rw[w1,ZN,DC 1 (by omega),en]
   exact⟨-1,rfl,.inl ⟨rfl,w0,w1⟩⟩
  ·obtain⟨t,q,e⟩:=SF _ _ (Nat.lt_succ_self _) (Nat.pos_of_ne_zero w1)
   have hx:2 ^ t*(2*q+1) < 2 ^ 64:=by rw[←e];exact L6 hb 1 _ _
   rw[e,WE _ _ _ _ _ (by omega) _ _ _ _ hx]
   exact⟨_,rfl,.inr ⟨1,t,q,by omega,rfl,e,QA t q hx,fun _=>w0⟩⟩
 ·obtain⟨t,q,e⟩:=SF _ _ (Nat.lt_succ_self _) (Nat.pos_of_ne_zero w0)
  have hx:2 ^ t*(2*q+1) < 2 ^ 64:=by rw[←e];exact L6 hb 0 _ _
  rw[e,WE _ _ _ _ _ (by omega) _ _ _ _ hx]
  exact⟨_,rfl,.inr ⟨0,t,q,by omega,rfl,e,QA t q hx,fun h=>by omega⟩⟩
end Go.TbWM
set_option maxRecDepth 100000
namespace Go.TbWM
open Go.Sp Go.TbW Go.TM

theorem R8 {N:Nat} {b:List Nat} {z:Int} (h1:1≤N) (hz:nY N b z):(z = -1∧∀ m,m < 128→Pg (Fp b N m))∨∃ m0,z=Int.ofNat m0∧m0 < 128∧¬ Pg (Fp b N m0)∧∀ m,m < m0→Pg (Fp b N m):=by
 rcases hz with⟨rfl,w0,w1⟩ | ⟨k,t,q,hk,rfl,e,ht,h0⟩
 ·refine .inl ⟨rfl,fun m hm=>?_⟩
  rw[Ir h1]
  rcases(show m / 64=0∨m / 64=1 by omega) with c | c <;> rw[c] <;> simp[w0,w1]
 ·refine .inr ⟨64*k+t,rfl,by omega,?_,fun m hm=>?_⟩
  ·rw[Ir h1,show (64*k+t) / 64=k by omega,show (64*k+t) % 64=t by omega,e,Ng,Nat.sub_self]
   simp
  ·rw[Ir h1]
   by_cases hm2:m / 64=k
   ·rw[hm2,e,Ng]
    have:¬ t≤m % 64:=by omega
    simp[this]
   ·have hk1:k=1:=by omega
    have hm3:m / 64=0:=by omega
    rw[hm3,h0 hk1];simp

theorem clT (q:List Value) (z:Int) (h:Au Ah q=true):Fe (.tuple ⟨[(.agg ⟨q⟩),(.int .i64 z)]⟩)=true:=by
 show an (Au Ah q) (an true true)=true
 rw[h];rfl
theorem Aci (n fl N:Nat) (C:List (Int×Int)) (h1:1≤N) (h7:N≤7) (hl:C.length≤24) (hC:Gw N C) (hc:ZI (Int.ofNat N) C=0) (b:List Nat) (hb:wd b) (hall:∀ n,BI (n+1) 56 [I (Int.ofNat N)]=some (.agg ⟨W b⟩)) :
 BI (n+3) 64 [tb fl (Int.ofNat N) C]=some (.tuple ⟨[.agg ⟨W (Fb b C)⟩,I 0]⟩):=by
 have e:BI (n+3) 64 [tb fl (Int.ofNat N) C]=XN (BI (n+2)) 1000000 (Int.ofNat N) (cl fl C):=by kernel_rfl
 rw[e];unfold XN
 have e1:=p40 n fl (Int.ofNat N) C
 unfold tb at e1
 rw[hc] at e1
 have e2:=p44 n fl N b hb C h7 hC (by omega)
 have hw:=FX C b hb
 have l1:(W b).length=14:=by rw[FY];exact hb.1
 have l2:(W (Fb b C)).length=14:=by rw[FY];exact hw.1
 have cl2:Au closed2 [(.agg ⟨W b⟩:Value),(Sl.v 2 (cl fl C))]=true:=by
  show an (Au Ah (W b)) _=true
  rw[Dy];rfl
 rw[e1,hall (n+1)]
 simp only[Pt,Ak,Ac,BP,OX,AA,RL,UK l1 (Dy b),e2,UK l2 (Dy _),cl2,UJ l1,UJ l2,Wy l2 Gv (Nc _),O0 l2 Gv,Dy,Wx l2,Nf l2,clT _ _ (Dy _)]
 rfl
theorem Acj (n fl N:Nat) (C:List (Int×Int)) (h1:1≤N) (h7:N≤7) (hl:C.length≤24) (hC:Gw N C) (hc:ZI (Int.ofNat N) C=0) (b:List Nat) (hb:wd b) (hall:∀ n,BI (n+1) 56 [I (Int.ofNat N)]=some (.agg ⟨W b⟩))
 (z:Int) (hz:BI (n+3) 61 [.agg ⟨W (Fb b C)⟩,I (Int.ofNat N)]=some (I z)):BI (n+4) 46 [tb fl (Int.ofNat N) C]=some (.tuple ⟨[.bool (AY z 0),I 0]⟩):=by
 have e:BI (n+4) 46 [tb fl (Int.ofNat N) C]=XJ (BI (n+3)) 1000000 (Int.ofNat N) (cl fl C):=by kernel_rfl
 rw[e];unfold XJ
 have e1:=Aci n fl N C h1 h7 hl hC hc b hb hall
 unfold tb at e1
 have hw:=FX C b hb
 have l2:(W (Fb b C)).length=14:=by rw[FY];exact hw.1
 have cl2:Au closed2 [(.agg ⟨W (Fb b C)⟩:Value),(.int .i64 (Int.ofNat N))]=true:=by
  show an (Au Ah (W (Fb b C))) _=true
  rw[Dy];rfl
 rw[e1]
 simp only[Ac,FW,Dj,EG,RL,UK l2 (Dy _),Ak,BP,UJ l2,Wy l2 Gv (Nc _),O0 l2 Gv,Dy,OX,AA,Wx l2,Nf l2,hz,cl2]
 rfl
end Go.TbWM
set_option maxRecDepth 100000
namespace Go.TbWM
open Go.Sp Go.TbW Go.TM

theorem Iy {α:Type} (v:α):∀ (i:Nat) (xs:List α),i < xs.length→BM [v] i xs=xs.set i v
 | 0,x::xs,_=>rfl
 | i + 1, x :: xs, h => by
  show x::BM [v] i xs=x::xs.set i v
  rw[Iy v i xs (by simpa using h)]
 | _,[],h=>by simp at h
theorem Kb (l:List Int) (i:Nat) (h:i < l.length):(l.map I)[i]?=some (I (l.getD i 0)):=by rw[Aja l i h];simp[h]
theorem WF (l:List Int):List.take l.length (l.map I)=l.map I:=List.take_of_length_le (by simp)
theorem QB {n:Nat} (h:n≤1000):EQ n 8=true:=by
 unfold EQ;rw[ble_eq];simp;omega
theorem ZO {N:Nat} {C:List (Int×Int)} (h:Gw N C) {i:Nat} (hi:i < C.length):∃ A B:Nat,C[i].1=Int.ofNat A∧C[i].2=Int.ofNat B∧A < N∧B < N∧A < B∧C[i].1.toNat=A∧C[i].2.toNat=B:=by
 obtain⟨h1,h2,h3⟩:=h _ (List.getElem_mem hi)
 exact⟨C[i].1.toNat,C[i].2.toNat,(Int.toNat_of_nonneg h1).symm,(Int.toNat_of_nonneg (by omega)).symm,by omega,by omega,by omega,rfl,rfl⟩
theorem WG (r:List Int):an (Nat.ble (0+r.length*1) (len (r.map I))) (Au Ah (Aq (r.length*1) (Am 0 (r.map I))))=true:=by
 simp only[Bh,kL,ble_eq,AV,List.length_map,Nat.zero_add,Nat.mul_one,Nat.le_refl,decide_true,CF,Bool.true_and,Cg,Bz,List.drop_zero,WF]
theorem ZP (r:List Int):Aq (r.length*1) (Am 0 (r.map I))=r.map I:=by
 simp only[Nat.mul_one,Cg,Bz,List.drop_zero,WF]
theorem WH (r:List Int):Aq (r.length*1) (r.map I)=r.map I:=by
 simp only[Nat.mul_one,Cg,WF]
theorem Jv (r:List Int):Au Ah (r.map I)=true:=by rw[Bh,kL]
theorem nZ (pu:Af) (n c:Nat) (r:List Int):Pk pu n r.length c (r.map I)=some (.tuple ⟨[S 0 r,I 0]⟩):=by
 unfold Pk
 rw[Jv,WG,ZP,Ak,Ak];rfl
theorem Ack (pu:Af) (n fl c N:Nat) (C:List (Int×Int)) (hf:Gw N C) (hC:C.length < 1000):∀ (f i:Nat) (r:List Int),C.length - i < f→i≤C.length→r.length=N →
 RO pu n f r.length c (cl fl C) (Int.ofNat C.length) (Int.ofNat i) (r.map I)=some (.tuple ⟨[S 0 (runs r (C.drop i)),I 0]⟩):=by
 intro f
 induction f with
 | zero=>intro i r h;omega
 | succ f ih =>
  intro i r h hi hr
  show QS pu n (RO pu n f) _ _ _ _ _ _=_
  unfold QS
  rw[Jv,Ak]
  by_cases hlt:i < C.length
  ·obtain⟨g1,g2⟩:=JP C i hlt
   have e:C.drop i=C[i]::C.drop (i+1):=List.drop_eq_getElem_cons hlt
   obtain⟨A,B,hA,hB,a1,b1,hAB,tA,tB⟩:=ZO hf hlt
   have a2:A < r.length:=by omega
   have b2:B < r.length:=by omega
   rw[hA] at g1
   rw[hB] at g2
   have hb:decide (i*2+2≤(pc C).length)=true:=by rw[Gu];simp;omega
   have next:=ih (i+1) (K8 r C[i]) (by omega) (by omega) (by rw[Gn];exact hr)
   rw[Gn] at next
   have s1:BM ([I (min (r.getD A 0) (r.getD B 0))]:List Value) A (r.map I)=(r.set A (min (r.getD A 0) (r.getD B 0))).map I:=by rw[Iy _ _ _ (by simpa using a2),List.map_set]
   have s2:BM ([I (max (r.getD A 0) (r.getD B 0))]:List Value) B ((r.set A (min (r.getD A 0) (r.getD B 0))).map I)=(K8 r C[i]).map I:=by
    rw[Iy _ _ _ (by simpa using b2),←List.map_set]
    unfold K8
    rw[tA,tB]
   rw[C8 hlt]
   simp only[Ak,Cx,Ac,LZ,M8,blt_eq,hlt,decide_true,CF,Bool.true_and,hb,BZ,g1,g2,BP,a2,b2,Nat.zero_add,Nat.mul_one,Kb r A a2,Kb r B b2,ZG,ZH,s1,s2,Jv,ble_eq,AV,List.length_map,List.length_set,Nat.succ_le_of_lt a2,Nat.succ_le_of_lt b2,Bool.and_true,DC i (by omega:i < 1000000)]
   rw[next,e];rfl
  ·have:i=C.length:=by omega
   subst this
   rw[CY hlt,AA,List.drop_length,nZ];rfl
theorem Aau (n fl fl' N:Nat) (C:List (Int×Int)) (r:List Int) (h7:N≤7) (hl:C.length≤24) (hC:Gw N C) (hc:ZI (Int.ofNat N) C=0) (hr:r.length=N) :
 BI (n+3) 27 [tb fl (Int.ofNat N) C,S fl' r]=some (.tuple ⟨[S 0 (runs r C),I 0]⟩):=by
 have e:BI (n+3) 27 [tb fl (Int.ofNat N) C,S fl' r]=Xe (BI (n+2)) 1000000 (Int.ofNat N) (cl fl C) (sl fl' r):=by kernel_rfl
 rw[e];unfold Xe
 have e1:=p40 n fl (Int.ofNat N) C
 unfold tb at e1
 rw[hc] at e1
 rw[e1]
 have rm:EQ (0+r.length) 8=true:=by rw[Nat.zero_add];exact QB (by omega)
 have:=Ack (BI (n+2)) 1000000 fl (2*r.length+bb false 1 0) N C hC (by omega) 1000000 0 r (by omega) (by omega) hr
 rw[List.drop_zero] at this
 have hn:nt (Bd (Int.ofNat r.length) (Int.ofNat N))=false:=by rw[hr];exact OX _
 simp only[Ac,BP,OX,AA,I4,GX,hn,rm,Ak,WH,Jv]
 exact this

end Go.TbWM
set_option maxRecDepth 100000
namespace Go.TbWM
open Go.Sp Go.TbW Go.TM

def pl (P:List (Nat×Nat)):List Value:=P.flatMap fun p=>[.int .u8 (Int.ofNat p.1),.int .u8 (Int.ofNat p.2)]
def ps (P:List (Nat×Nat)):Sl:=⟨P.length,0,pl P⟩
def byte (P:List (Nat×Nat)):Prop:=∀ p∈P,p.1 < 256∧p.2 < 256
theorem oD (P:List (Nat×Nat)):(pl P).length=P.length*2:=by
 induction P with
 | nil=>rfl
 | cons p C ih=>simp only[pl,List.flatMap_cons,List.length_append,List.length_cons,List.length_nil] at ih ⊢;omega
theorem WI:∀ (C:List (Nat×Nat)) (i:Nat) (h:i < C.length),(pl C)[i*2]?=some (.int .u8 (Int.ofNat C[i].1))∧(pl C)[i*2+1]?=some (.int .u8 (Int.ofNat C[i].2))
 | [],i,h=>by simp at h
 | p::C,0,_=>⟨rfl,rfl⟩
 | p :: C, i + 1, h => by
  have ih:=WI C i (by simpa using h)
  have e:pl (p::C) = .int .u8 (Int.ofNat p.1) :: .int .u8 (Int.ofNat p.2)::pl C:=rfl
  have e2:(i+1)*2=i*2+1+1:=by omega
  rw[e,e2]
  simp only[List.getElem?_cons_succ,List.getElem_cons_succ]
  exact ih
theorem UM (C:List (Int×Int)):Au Ah (pc C)=true:=by
 rw[Bh,List.all_eq_true];intro x hx
 simp[pc] at hx
 obtain⟨a,b,_,h | h⟩:=hx <;> subst h <;> rfl
theorem ZQ (C:List (Int×Int)) (k:Nat) (hk:1≤k) (hb:C.length+k≤1000000):GV 2 16 C.length (2*C.length) k (pc C)=true:=by
 unfold GV
 have h1:EQ (C.length+k) 16=true:=Nat.ble_eq_true_of_le (by omega)
 have h2:Nat.ble (C.length+k) (2*C.length / 2)=false:=by
  rw[ble_eq];exact decide_eq_false (by omega)
 have h3:Nat.ble (0+C.length*2) (len (pc C))=true:=Nat.ble_eq_true_of_le (by rw[AV,Gu];omega)
 have h4:Nat.beq (2*C.length % 2) 1=false:=by rw[Nat.mul_mod_right];rfl
 have h5:Nat.beq (0+C.length*2) (len (pc C))=true:=by rw[AV,Gu,Nat.zero_add];exact Nat.beq_refl _
 rw[h1,h2,h3,h4,h5];rfl
theorem oF (C D:List (Int×Int)):pc C++pc D=pc (C++D):=by simp[pc]
theorem Ul (C:List (Int×Int)) (a b:Int):Br (Am 0 (pc C)) [I a,I b]=pc (C++[(a,b)]):=by
 rw[BH,Bz,List.drop_zero,←oF];rfl

theorem ZR (C:List (Int×Int)):Aq (C.length*2) (pc C)=pc C:=by rw[Cg,←Gu,List.take_length]
theorem Aav (C:List (Int×Int)):an (Nat.ble (0+C.length*2) (len (pc C))) (Au Ah (pc C))=true:=by
 rw[UM,Nat.ble_eq_true_of_le (by rw[AV,Gu];omega)];rfl
def mk (N:Nat) (C:List (Int×Int)):Value:=tb 0 (Int.ofNat N) C
theorem Um (pu:Af) (n:Nat) (z:Int) (N:Nat) (C:List (Int×Int)):Oy pu n z (Int.ofNat N) C.length (2*C.length) (pc C)=some (mk N C):=by
 unfold Oy;rw[UM,Ak,Bz,List.drop_zero,ZR,Aav,Ak];rfl
theorem wN (x:Nat) (h:x < 1000000):Aj .i64 (Int.ofNat x)=Int.ofNat x:=Oe _ (by show _≤(x:Int);omega) (by show (x:Int)≤_;omega)
theorem Aaw (a b:Nat) (h:a < 1000000) (hb:b≤a):Aj .i64 (Int.sub (Int.ofNat a) (Int.ofNat b))=Int.ofNat (a - b):=by
 have:Int.sub (Int.ofNat a) (Int.ofNat b)=Int.ofNat (a - b):=by show (a:Int) - (b:Int)=((a - b:Nat):Int);omega
 rw[this];exact wN _ (by omega)
theorem Aax (a b:Nat) (h:a+b < 1000000):Aj .i64 (Int.add (Int.ofNat a) (Int.ofNat b))=Int.ofNat (a+b):=wN _ h
theorem ZT (a b:Nat):Int.tmod (Int.ofNat a) (Int.ofNat b)=Int.ofNat (a % b):=rfl
theorem neN {a:Nat} (h:a≠0):nt (Bd (Int.ofNat a) 0)=true:=Wv (by show (a:Int)≠0;omega)
theorem Aay (pu:Af) (n M N:Nat) (P:List (Nat×Nat)) (hP:byte P) (h1:1≤N) (h5:N≤5) (z:Int):∀ (f i:Nat) (C:List (Int×Int)),M - i < f→i≤M→i≤P.length→Gw N C→C.length+(M - i)≤1000→M≤1000 →
 ∃ D,Gw N D∧D.length≤C.length+(M - i)∧OA pu n f (Int.ofNat M) (ps P) (Int.ofNat P.length) (Int.ofNat i) z (Int.ofNat N) C.length (2*C.length) (pc C)=some (mk N D):=by
 intro f
 induction f with
 | zero=>intro i C h;omega
 | succ f ih =>
  intro i C h hi hiP hC hlen hM
  have fin:∀ x y (k:Int),Oz pu n (OA pu n f) (Int.ofNat M) (ps P) (Int.ofNat P.length) k true z (Int.ofNat N) C.length (2*C.length) x y (pc C)=some (mk N C):=by
   intro x y k
   unfold Oz
   rw[UM,Ak,Ak,Um]
  show ∃ D,Gw N D∧D.length≤C.length+(M - i)∧QR pu n (OA pu n f) _ _ _ _ _ _ _ _ _=_
  unfold QR
  rw[UM,Ak]
  by_cases hlt:i < P.length
  ·obtain⟨g1,g2⟩:=WI P i hlt
   obtain⟨hx,hy⟩:=hP _ (List.getElem_mem hlt)
   have hb:decide (i*2+2≤(pl P).length)=true:=by rw[oD];simp;omega
   rw[C8 hlt]
   simp only[Ak,Cx,Ac,ps,blt_eq,hlt,decide_true,CF,Bool.true_and,ble_eq,AV,hb,BZ,g1,g2,Aik]
   by_cases hiM:i < M
   ·rw[C8 hiM]
    simp only[Km,Bool.not_true,AA]
    by_cases h2:N < 2
    ·rw[show AY (Int.ofNat N) 2=true from C8 h2]
     exact⟨C,hC,by omega,fin _ _ _⟩
    ·rw[show AY (Int.ofNat N) 2=false from CY h2]
     have e1:Aj .i64 (Int.sub (Int.ofNat N) 1)=Int.ofNat (N - 1):=Aaw N 1 (by omega) (by omega)
     have ha:P[i].1 % (N - 1) < N - 1:=Nat.mod_lt _ (by omega)
     have e2:Aj .i64 (Int.sub (Int.ofNat (N - 1)) (Int.ofNat (P[i].1 % (N - 1))))=Int.ofNat (N - 1 - P[i].1 % (N - 1)):=Aaw _ _ (by omega) (by omega)
     have hd:P[i].2 % (N - 1 - P[i].1 % (N - 1)) < N - 1 - P[i].1 % (N - 1):=Nat.mod_lt _ (by omega)
     have e3:Aj .i64 (Int.add (Int.ofNat (P[i].1 % (N - 1))) 1)=Int.ofNat (P[i].1 % (N - 1)+1):=DC _ (by omega)
     have e4:Aj .i64 (Int.add (Int.ofNat (P[i].1 % (N - 1)+1)) (Int.ofNat (P[i].2 % (N - 1 - P[i].1 % (N - 1)))))=Int.ofNat (P[i].1 % (N - 1)+1+P[i].2 % (N - 1 - P[i].1 % (N - 1))):=Aax _ _ (by omega)
     unfold Oz
     rw[wN P[i].1 (by omega),wN P[i].2 (by omega),e1,ZT,e2,ZT,e3,e4,Ul,UM,UM,ZQ C 1 (by omega) (by omega),neN (show N - 1≠0 by omega),neN (show N - 1 - P[i].1 % (N - 1)≠0 by omega),DC i (by omega)]
     simp only[Ak,AA]
     obtain ⟨D, d1, d2, d3⟩ := ih (i + 1) (C ++ [(Int.ofNat (P[i].1 % (N - 1)), Int.ofNat (P[i].1 % (N - 1) + 1 + P[i].2 % (N - 1 - P[i].1 % (N - 1))))]) (by omega) (by omega) (by omega)
      (by
        intro p hp
        rcases List.mem_append.1 hp with hp | hp
        ·exact hC p hp
        ·simp only[List.mem_singleton] at hp
         subst hp
         refine⟨?_,?_,?_⟩
         ·show (0:Int)≤((P[i].1 % (N - 1):Nat):Int);omega
         ·show ((P[i].1 % (N - 1):Nat):Int) < ((P[i].1 % (N - 1)+1+P[i].2 % (N - 1 - P[i].1 % (N - 1)):Nat):Int);omega
         ·show ((P[i].1 % (N - 1)+1+P[i].2 % (N - 1 - P[i].1 % (N - 1)):Nat):Int) < (N:Int);omega)
      (by simp;omega) hM
     refine⟨D,d1,?_,?_⟩
     ·simp at d2;omega
     ·rw[List.length_append] at d3
      exact d3
   ·rw[CY hiM]
    simp only[Km,Bool.not_false,Ak]
    exact⟨C,hC,by omega,fin _ _ _⟩
  ·have:i=P.length:=by omega
   subst this
   rw[CY hlt,AA,Um]
   exact⟨C,hC,by omega,rfl⟩

def MF:Nat→List (Int×Int)
 | 2=>[(0,1)]
 | 3=>[(0,1),(1,2),(0,1)]
 | 4=>[(0,1),(1,2),(2,3),(0,1),(1,2),(0,1)]
 | 5=>[(0,1),(1,2),(2,3),(3,4),(0,1),(1,2),(2,3),(0,1),(1,2),(0,1)]
 | _=>[]
theorem X4:∀ N,1≤N→N≤5→Gw N (MF N)∧(MF N).length≤10
 | 1,_,_=>⟨by show ∀ p∈MF 1,0≤p.1∧p.1 < p.2∧p.2 < ((1:Nat):Int);decide,by decide⟩
 | 2,_,_=>⟨by show ∀ p∈MF 2,0≤p.1∧p.1 < p.2∧p.2 < ((2:Nat):Int);decide,by decide⟩
 | 3,_,_=>⟨by show ∀ p∈MF 3,0≤p.1∧p.1 < p.2∧p.2 < ((3:Nat):Int);decide,by decide⟩
 | 4,_,_=>⟨by show ∀ p∈MF 4,0≤p.1∧p.1 < p.2∧p.2 < ((4:Nat):Int);decide,by decide⟩
 | 5,_,_=>⟨by show ∀ p∈MF 5,0≤p.1∧p.1 < p.2∧p.2 < ((5:Nat):Int);decide,by decide⟩
 | N+6,_,h=>by omega
theorem Aaz (pu:Af) (z z2:Int) (s:Sl) (b:Bool):∀ N,1≤N→N≤5→MM pu 1000000 1000000 z (Int.ofNat N) z2 s b 0 (Int.ofNat N) 0 0 []=ML pu 1000000 z z2 s b 0 (Int.ofNat N) (MF N).length (2*(MF N).length) (pc (MF N))
 | 1,_,_=>by kernel_rfl
 | 2,_,_=>by kernel_rfl
 | 3,_,_=>by kernel_rfl
 | 4,_,_=>by kernel_rfl
 | 5,_,_=>by kernel_rfl
 | N+6,_,h=>by omega
theorem AaA (n L M:Nat) (P:List (Nat×Nat)) (hL:L < 256) (hP:byte P) (b:Bool) (hM:M≤10) :
 ∃ D,Gw (1+L % 5) D∧D.length≤(if b then 10 else 0)+M∧BI (n+1) 26 [.agg ⟨[.int .u8 (Int.ofNat L),Sl.v 2 (ps P),.bool b]⟩,I (Int.ofNat M)]=some (mk (1+L % 5) D):=by
 have e:BI (n+1) 26 [.agg ⟨[.int .u8 (Int.ofNat L),Sl.v 2 (ps P),.bool b]⟩,I (Int.ofNat M)]=Xd (BI n) 1000000 (Int.ofNat L) (ps P) b (Int.ofNat M):=by kernel_rfl
 rw[e];unfold Xd
 have eN:Aj .i64 (Int.add 1 (Int.tmod (Aj .i64 (Int.ofNat L)) 5))=Int.ofNat (1+L % 5):=by
  rw[wN L (by omega),show Int.tmod (Int.ofNat L) 5=Int.ofNat (L % 5) from rfl]
  exact Aax 1 (L % 5) (by omega)
 rw[eN]
 have run:∀ C,Gw (1+L % 5) C→C.length≤10→∃ D,Gw (1+L % 5) D∧D.length≤C.length+M∧ML (BI n) 1000000 (Int.ofNat M) (Int.ofNat L) (ps P) b 0 (Int.ofNat (1+L % 5)) C.length (2*C.length) (pc C)=some (mk (1+L % 5) D):=by
  intro C hC hl
  unfold ML
  rw[UM,Ak]
  exact Aay (BI n) 1000000 M (1+L % 5) P hP (by omega) (by omega) 0 1000000 0 C (by omega) (by omega) (by omega) hC (by omega) (by omega)
 cases b with
 | false =>
  obtain⟨D,d1,d2,d3⟩:=run [] (by intro p hp;cases hp) (by simp)
  exact⟨D,d1,by simpa using d2,d3⟩
 | true =>
  rw[Ak,Aaz _ _ _ _ _ _ (by omega) (by omega)]
  obtain⟨f1,f2⟩:=X4 (1+L % 5) (by omega) (by omega)
  obtain⟨D,d1,d2,d3⟩:=run _ f1 f2
  exact⟨D,d1,by simp;omega,d3⟩
end Go.TbWM
set_option maxRecDepth 100000
namespace Go.TM
def Eb (N:Nat):Nat→List Int→List (List Int)
 | 0,r=>[r]
 | d+1,r=>(List.range N).flatMap fun i=>if Int.ofNat i∈r then [] else Eb N d (r++[Int.ofNat i])
theorem LK (N:Nat):∀ (d:Nat) (r x:List Int),x∈Eb N d r→x.length=r.length+d
 | 0,r,x,h=>by simp[Eb] at h;rw[h];rfl
 | d + 1, r, x, h => by
  simp only[Eb,List.mem_flatMap] at h
  obtain⟨i,_,h⟩:=h
  by_cases c:Int.ofNat i∈r
  ·rw[if_pos c] at h;cases h
  ·rw[if_neg c] at h
   have:=LK N d _ x h
   simp at this;omega
theorem O3 (N:Nat):∀ (d:Nat) (r s:List Int),s.length=d→(∀ e∈s,0≤e∧e < (N:Int))→(r++s).Nodup→r++s∈Eb N d r
 | 0, r, s, h, _, _ => by
  have:s=[]:=List.eq_nil_of_length_eq_zero h
  subst this;simp[Eb]
 | d + 1, r, e :: s, h, hs, hn => by
  obtain⟨h1,h2⟩:=hs e (by simp)
  have he:e=Int.ofNat e.toNat:=(Int.toNat_of_nonneg h1).symm
  have hm:Int.ofNat e.toNat ∉ r:=by
   rw[←he]
   intro hr
   exact(List.nodup_append.1 hn).2.2 e hr e (by simp) rfl
  simp only[Eb,List.mem_flatMap]
  refine⟨e.toNat,List.mem_range.2 (by omega),?_⟩
  rw[if_neg hm,←he]
  have e2:r++e::s=(r++[e])++s:=by simp
  rw[e2]
  exact O3 N d (r++[e]) s (by simpa using h) (fun x hx=>hs x (by simp[hx])) (by rw[←e2];exact hn)

def pr:Nat→Nat→List Int→List Int
 | _,_,[]=>[]
 | a,b,x::l=>if x=0 then (a:Int)::pr (a+1) b l else (b:Int)::pr a (b+1) l
def zeros:List Int→Nat
 | []=>0
 | x::l=>if x=0 then zeros l+1 else zeros l
theorem LM:∀ l:List Int,zeros l≤l.length
 | []=>Nat.le_refl _
 | x :: l => by
  have:=LM l
  simp only[zeros,List.length_cons]
  split <;> omega
theorem O4:∀ (l:List Int) (a b:Nat),(pr a b l).length=l.length
 | [],a,b=>rfl
 | x :: l, a, b => by
  simp only[pr]
  split <;> simp[O4 l]
theorem MG:∀ (l:List Int) (a b:Nat) (e:Int),e∈pr a b l→((a:Int)≤e∧e < (a:Int)+zeros l)∨((b:Int)≤e∧e < (b:Int)+(l.length - zeros l:Nat))
 | [],a,b,e,h=>by simp[pr] at h
 | x :: l, a, b, e, h => by
  have hz:=LM l
  simp only[pr] at h
  simp only[zeros,List.length_cons]
  split at h
  ·rename_i hx
   rw[if_pos hx]
   rw[List.mem_cons] at h
   rcases h with rfl | h
   ·left;omega
   ·rcases MG l (a+1) b e h with h1 | h1
    ·left;omega
    ·right;omega
  ·rename_i hx
   rw[if_neg hx]
   rw[List.mem_cons] at h
   rcases h with rfl | h
   ·right;omega
   ·rcases MG l a (b+1) e h with h1 | h1
    ·left;omega
    ·right;omega
theorem LP:∀ (l:List Int) (a b:Nat),a+zeros l≤b→(pr a b l).Nodup
 | [],a,b,_=>by simp[pr]
 | x :: l, a, b, h => by
  simp only[zeros] at h
  simp only[pr]
  split
  ·rename_i hx
   rw[if_pos hx] at h
   rw[List.nodup_cons]
   refine⟨fun hm=>?_,LP l (a+1) b (by omega)⟩
   rcases MG l (a+1) b _ hm with h1 | h1 <;> omega
  ·rename_i hx
   rw[if_neg hx] at h
   rw[List.nodup_cons]
   refine⟨fun hm=>?_,LP l a (b+1) (by omega)⟩
   rcases MG l a (b+1) _ hm with h1 | h1 <;> omega
theorem QC : ∀ (l : List Int) (a b Z : Nat), (∀ x ∈ l, x = 0 ∨ x = 1) → a + zeros l ≤ Z → Z ≤ b → (pr a b l).map (fun x => if (Z : Int) ≤ x then 1 else 0) = l
 | [],a,b,Z,_,_,_=>rfl
 | x :: l, a, b, Z, hl, h1, h2 => by
  simp only[zeros] at h1
  simp only[pr]
  split
  ·rename_i hx
   rw[if_pos hx] at h1
   rw[List.map_cons,QC l (a+1) b Z (fun y hy=>hl y (by simp[hy])) (by omega) h2,if_neg (by omega),hx]
  ·rename_i hx
   rw[if_neg hx] at h1
   have hx1:x=1:=(hl x (by simp)).resolve_left hx
   rw[List.map_cons,QC l a (b+1) Z (fun y hy=>hl y (by simp[hy])) h1 (by omega),if_pos (by omega),hx1]
theorem X5 {f:Int→Int} (hf:mono f) {r:List Int} (h:Pg r):Pg (r.map f):=by
 intro j h1 h2 h3
 rw[List.length_map] at h2
 rw[getD_map f r j h2,getD_map f r (j - 1) (by omega)] at h3
 have:=hf (r.getD (j - 1) 0) (r.getD j 0) (by have:=h j h1 h2;omega)
 omega
theorem R9 (N m:Nat):∀ x∈plain N m,x=0∨x=1:=by
 intro x hx
 simp only[plain,List.mem_map] at hx
 obtain⟨i,_,rfl⟩:=hx
 split
 ·exact .inr rfl
 ·exact .inl rfl
def two (N k a c:Nat):List Int:=List.replicate (k - a) 0++List.replicate a 1++List.replicate (N - k - c) 0++List.replicate c 1
theorem O5 (θ:Int):mono fun x=>if θ≤x then (1:Int) else 0:=by
 intro a b hab
 by_cases c1:θ≤a
 ·simp only[if_pos c1,if_pos (Int.le_trans c1 hab)];exact Int.le_refl _
 ·simp only[if_neg c1];split <;> omega
end Go.TM
set_option maxRecDepth 100000
set_option maxHeartbeats 4000000
namespace Go.TbWM
open Go Go.Sp Go.TbW Go.TM
theorem q39 (n:Nat) (x y:Int):BI (n+2) 74 [I x,I y]=some (.bool (AY x y)):=by
 have e:BI (n+2) 74 [I x,I y]=XO (BI (n+1)) 1000000 x y:=by kernel_rfl
 have e2:∀ z:Int,BI (n+1) 89 [I z]=some (.bool false):=fun z=>by
  have e:BI (n+1) 89 [I z]=XR (BI n) 1000000 z:=by kernel_rfl
  rw[e];unfold XR;rw[OX]
 rw[e];unfold XO
 simp only[e2,Ac,BU,AA]
 rfl
theorem bI (i:Nat) (h1:1≤i) (h:i < 1000000):Aj .i64 (Int.sub (Int.ofNat i) 1)=Int.ofNat (i - 1):=by
 show Aj .i64 (Int.ofNat i - 1)=_
 rw[Oe _ (by simp;omega) (by simp;omega)];simp;omega
def AaB (r:List Int) (i:Nat):Prop:=∀ j,1≤j→j≤i→¬ r.getD j 0 < r.getD (j - 1) 0
theorem l13 (n M fl:Nat) (r:List Int) (hr:r.length < 1000):∀ (i w:Nat),i < w→i < r.length→OC (BI (n+2)) M w (sl fl r) (Int.ofNat i)=some (Value.bool (JN (AaB r i)))
 | _,0,h,_=>by omega
 | 0, w + 1, _, hi => by
  show K6 (BI (n+2)) M (OC (BI (n+2)) M w) _ _=_
  unfold K6
  rw[show AY (0:Int) (Int.ofNat 0)=false from rfl,AA,Fh (show AaB r 0 from fun j h1 h2=>by omega)];rfl
 | i + 1, w + 1, hw, hi => by
  have ih:=l13 n M fl r hr i w (by omega) (by omega)
  have hi1:i < r.length:=by omega
  show K6 (BI (n+2)) M (OC (BI (n+2)) M w) _ _=_
  unfold K6
  rw[show AY (0:Int) (Int.ofNat (i+1))=true from by rw[Ph];show (0:Int) < ((i+1:Nat):Int);omega]
  simp only[Ak,Cx,Ac,I4,GX,blt_eq,hi,hi1,decide_true,CF,Bool.true_and,BZ,Nat.mul_one,Kb r (i+1) hi,Kb r i hi1,BP,bI (i+1) (by omega) (by omega),Nat.add_sub_cancel,q39,BU]
  by_cases c:r.getD (i+1) 0 < r.getD i 0
  ·rw[Ph.2 c,Ak,FK (fun h9=>h9 (i+1) (by omega) (Nat.le_refl _) c)]
  ·rw[OW.2 c,AA,ih]
   congr 2
   apply Gm
   constructor
   ·intro h9 j h1 h2
    by_cases e:j=i+1
    ·subst e;exact c
    ·exact h9 j h1 (by omega)
   ·intro h9 j h1 h2;exact h9 j h1 (by omega)
theorem p13 (n fl:Nat) (r:List Int) (hr:r.length < 1000):BI (n+3) 33 [S fl r]=some (Value.bool (JN (Pg r))):=by
 have e:BI (n+3) 33 [S fl r]=Xg (BI (n+2)) 1000000 (sl fl r):=by kernel_rfl
 rw[e];unfold Xg
 rw[I4]
 cases hl:r.length with
 | zero =>
  rw[show Aj .i64 (Int.sub (Int.ofNat 0) 1) = -1 from by rw[show Int.sub (Int.ofNat 0) 1 = -1 from rfl];exact Oe _ (by decide) (by decide)]
  show K6 (BI (n+2)) 1000000 (OC (BI (n+2)) 1000000 999999) _ _=_
  unfold K6
  rw[show AY (0:Int) (-1)=false from rfl,AA,Fh (show Pg r from fun j h1 h2=>by omega)];rfl
 | succ m =>
  rw[bI (m+1) (by omega) (by omega),Nat.add_sub_cancel,l13 n 1000000 fl r hr m 1000000 (by omega) (by omega)]
  congr 2
  apply Gm
  exact⟨fun h j h1 h2=>h j h1 (by omega),fun h j h1 h2=>h j h1 (by omega)⟩
theorem l42 (pu:Af) (M fl:Nat) (r:List Int) (x:Int) (hr:r.length < 1000):∀ (d w i:Nat),i+d=r.length→d < w→∃ z,OJ pu M w (sl fl r) x (Int.ofNat r.length) (Int.ofNat i)=some (I z)∧nt (AY z 0)=JN (x∈r.drop i)
 | _,0,_,_,h=>by omega
 | 0, w + 1, i, hd, _ => by
  refine⟨-1,?_,?_⟩
  ·show OH pu M (OJ pu M w) _ _ _ _=_
   unfold OH
   rw[CY (by omega),AA];rfl
  ·rw[List.drop_eq_nil_of_le (by omega),FK (by simp)];rfl
 | d + 1, w + 1, i, hd, hw => by
  have hlt:i < r.length:=by omega
  obtain⟨z,z1,z2⟩:=l42 pu M fl r x hr d w (i+1) (by omega) (by omega)
  have e:r.drop i=r[i]::r.drop (i+1):=List.drop_eq_getElem_cons hlt
  show ∃ z,OH pu M (OJ pu M w) _ _ _ _=_∧_
  unfold OH
  rw[C8 hlt]
  simp only[Ak,Cx,Ac,I4,GX,blt_eq,hlt,decide_true,CF,Bool.true_and,BZ,Nat.mul_one,Aja r i hlt,BP]
  by_cases c:x=r[i]
  ·refine⟨Int.ofNat i,by rw[c,nU,Ak],?_⟩
   rw[Fh (show x∈r.drop i from by rw[e,List.mem_cons];exact .inl c)];rfl
  ·refine⟨z,by rw[Ww c,AA,DC i (by omega)];exact z1,?_⟩
   rw[z2]
   apply Gm
   rw[e,List.mem_cons]
   exact⟨fun h=>.inr h,fun h=>h.resolve_left c⟩
theorem p16 (n fl:Nat) (r:List Int) (x:Int) (hr:r.length < 1000):BI (n+2) 38 [S fl r,I x]=some (Value.bool (JN (x∈r))):=by
 have e:BI (n+2) 38 [S fl r,I x]=Xh (BI (n+1)) 1000000 (sl fl r) x:=by kernel_rfl
 have e2:BI (n+1) 77 [Sl.v 1 (sl fl r),I x]=OJ (BI n) 1000000 1000000 (sl fl r) x (Int.ofNat r.length) (Int.ofNat 0):=by kernel_rfl
 obtain⟨z,z1,z2⟩:=l42 (BI n) 1000000 fl r x hr r.length 1000000 0 (by omega) (by omega)
 rw[List.drop_zero] at z2
 rw[e];unfold Xh
 rw[e2,z1,Ac,BP,Ac,z2]
def DB (D:List Bool):List Value:=D.map .bool
theorem QD (D:List Bool):(DB D).length=D.length:=by unfold DB;simp
theorem M9 (D:List Bool):Au Ah (DB D)=true:=by
 rw[Bh,List.all_eq_true]
 intro v hv
 obtain⟨b,_,rfl⟩:=List.mem_map.1 hv
 rfl
theorem oG (D:List Bool) (i:Nat) (h:i < D.length):BM ([.bool true]:List Value) i (DB D)=DB (D.set i true):=by
 rw[Iy _ _ _ (by rw[QD];exact h)];unfold DB;rw[List.map_set]
theorem WJ {r:List Int} {p:Int×Int} {A B:Nat} (tA:p.1.toNat=A) (tB:p.2.toNat=B) (hAB:A < B) (h:r.getD B 0 < r.getD A 0):(r.set A (r.getD B 0)).set B (r.getD A 0)=K8 r p:=by
 unfold K8
 rw[tA,tB,Int.min_eq_right (by omega),Int.max_eq_left (by omega)]
theorem Sa {r:List Int} {p:Int×Int} {A B:Nat} (tA:p.1.toNat=A) (tB:p.2.toNat=B) (hA:A < r.length) (hB:B < r.length) (h:¬ r.getD B 0 < r.getD A 0):r=K8 r p:=by
 unfold K8
 rw[tA,tB,Int.min_eq_left (by omega),Int.max_eq_right (by omega),K9 r A hA,K9 r B hB]
theorem Acm (pu:Af) (n c c2:Nat) (r:List Int) (D:List Bool):Pm pu n r.length c D.length c2 (r.map I) (DB D)=some (.tuple ⟨[S 0 r,Sl.v 1 ⟨D.length,0,DB D⟩]⟩):=by
 have h1:Aq (D.length*1) (Am 0 (DB D))=DB D:=by rw[Cg,Bz,List.drop_zero,Nat.mul_one];exact List.take_of_length_le (by rw[QD];exact Nat.le_refl _)
 have h2:Nat.ble (0+D.length*1) (len (DB D))=true:=Nat.ble_eq_true_of_le (by rw[AV,QD];omega)
 unfold Pm
 rw[Jv,M9,Ak,Ak,WG,Ak,h1,h2,M9,show an true true=true from rfl,Ak,ZP];rfl
theorem Sb:∀ k,k < 30→AF ([.bool false]:List Value) k=DB (List.replicate k false):=by
 intro k hk
 have:k=0∨k=1∨k=2∨k=3∨k=4∨k=5∨k=6∨k=7∨k=8∨k=9∨k=10∨k=11∨k=12∨k=13∨k=14∨k=15∨k=16∨k=17∨k=18∨k=19∨k=20∨k=21∨k=22∨k=23∨k=24∨k=25∨k=26∨k=27∨k=28∨k=29:=by omega
 rcases this with rfl | rfl | rfl | rfl | rfl | rfl | rfl | rfl | rfl | rfl | rfl | rfl | rfl | rfl | rfl | rfl | rfl | rfl | rfl | rfl | rfl | rfl | rfl | rfl | rfl | rfl | rfl | rfl | rfl | rfl <;> rfl
end Go.TbWM
set_option maxRecDepth 100000
namespace Go.TM
theorem Kc {N:Nat} {C:List (Int×Int)} (hC:Gw N C):(∀ x∈Eb N N [],Pg (runs x C))↔KW N C:=by
 constructor
 ·intro h
  rw[←R4 hC]
  intro m _
  have hl:=FD N m
  have h01:=R9 N m
  generalize plain N m=l at hl h01
  have hz:=LM l
  have hp:pr 0 (zeros l) l∈Eb N N []:=by
   have:=O3 N N [] (pr 0 (zeros l) l) (by rw[O4];exact hl) (fun e he=>by rcases MG l 0 (zeros l) e he with h1 | h1 <;> omega) (by rw[List.nil_append];exact LP l 0 (zeros l) (by omega))
   rwa [List.nil_append] at this
  have hs:=h _ hp
  have hf:mono (fun x=>if (zeros l:Int)≤x then 1 else 0):=by
   intro a b hab
   by_cases c1:(zeros l:Int)≤a
   ·simp only[if_pos c1,if_pos (Int.le_trans c1 hab)];exact Int.le_refl _
   ·simp only[if_neg c1];split <;> omega
  have hm:=JO hf C (pr 0 (zeros l) l) hC (by rw[O4];exact hl)
  rw[QC l 0 (zeros l) (zeros l) h01 (by omega) (Nat.le_refl _)] at hm
  rw[hm]
  exact X5 hf hs
 ·intro h x hx
  exact h x (by have:=LK N N [] x hx;simpa using this)
section
variable {N:Nat} {C:List (Int×Int)}
theorem X6 {p:List Int} (θ:Int) (hp:p.length=N):∃ m,m < 2 ^ N∧plain N m=p.map fun x=>if θ≤x then (1:Int) else 0:=by
 have hl:(p.map fun x=>if θ≤x then (1:Int) else 0).length=N:=by rw[List.length_map,hp]
 have h01:∀ j,j < (p.map fun x=>if θ≤x then (1:Int) else 0).length→(p.map fun x=>if θ≤x then (1:Int) else 0).getD j 0=0∨(p.map fun x=>if θ≤x then (1:Int) else 0).getD j 0=1:=fun j hj=>by
  rw[hl] at hj
  rw[getD_map _ _ _ (by omega)]
  split
  ·exact .inr rfl
  ·exact .inl rfl
 refine⟨num (p.map fun x=>if θ≤x then (1:Int) else 0),?_,?_⟩
 ·have:=Qz (p.map fun x=>if θ≤x then (1:Int) else 0)
  rwa [hl] at this
 ·have:=Ps _ h01
  rwa [hl] at this
theorem row_of {m:Nat}:∃ p,p∈Eb N N []∧p.map (fun x=>if (zeros (plain N m):Int)≤x then (1:Int) else 0)=plain N m∧p.length=N:=by
 have hl:=FD N m
 have h01:=R9 N m
 generalize plain N m=l at hl h01
 have hz:=LM l
 refine⟨pr 0 (zeros l) l,?_,QC l 0 (zeros l) (zeros l) h01 (by omega) (Nat.le_refl _),by rw[O4];exact hl⟩
 have:=O3 N N [] (pr 0 (zeros l) l) (by rw[O4];exact hl) (fun e he=>by rcases MG l 0 (zeros l) e he with h1 | h1 <;> omega) (by rw[List.nil_append];exact LP l 0 (zeros l) (by omega))
 rwa [List.nil_append] at this
end
end Go.TM
set_option maxRecDepth 100000
set_option maxHeartbeats 4000000
namespace Go.TbWM
open Go Go.Sp Go.TbW Go.TM
theorem WK (n fl N:Nat) (C:List (Int×Int)) (h1:1≤N) (h7:N≤7) (hl:C.length≤24) (hC:Gw N C) (hc:ZI (Int.ofNat N) C=0) :
 BI (n+4) 46 [tb fl (Int.ofNat N) C]=some (.tuple ⟨[.bool (JN (KW N C)),I 0]⟩):=by
 obtain⟨b,hb,hall⟩:=O1 N h1 h7
 obtain⟨z,hz,hbad⟩:=p22 (n+1) N h1 h7 (Fb b C) (FX C b hb.1)
 rw[Acj n fl N C h1 h7 hl hC hc b hb.1 hall z hz]
 have hiff:AY z 0=JN (KW N C):=by
  have hw:=FX C b hb.1
  rcases R8 h1 hbad with⟨rfl,hs⟩ | ⟨m0,rfl,hm,hns,_⟩
  ·rw[Fh ((LY h1 h7 hb hC).1 ((Jj hw h1).1 hs))];rfl
  ·rw[FK (fun h=>hns ((Jj hw h1).2 ((LY h1 h7 hb hC).2 h) m0 hm))]
   rw[OW]
   show ¬ ((m0:Int) < 0)
   omega
 rw[hiff]

end Go.TbWM
