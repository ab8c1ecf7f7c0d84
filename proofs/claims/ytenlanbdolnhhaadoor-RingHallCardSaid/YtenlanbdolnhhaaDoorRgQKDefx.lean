/- Made from wip. -/
import Derived.Test.YtenlanbdolnhhaaDoorRgQLwx
import Derived.Test.YtenlanbdolnhhaaDoorSpMovex
import Derived.KernelRfl

set_option maxRecDepth 100000
set_option maxHeartbeats 2000000
namespace Go.RgP
open Go Go.Sp
def lexB:List Nat→List Nat→Bool
 | [],[]=>false
 | [],_::_=>true
 | _::_,[]=>false
 | x::a,y::b=>bif Nat.beq x y then lexB a b else Nat.blt x y
theorem Ha (x y:Nat) (a b:List Nat):lexB (x::a) (y::b)=(bif Nat.beq x y then lexB a b else Nat.blt x y):=rfl
theorem K4:∀ a:List Nat,lexB a a=false
 | []=>rfl
 | x::a=>by rw[Ha,Nat.beq_refl];exact K4 a
theorem L6:∀ {a b c:List Nat},lexB a b=true→lexB b c=true→lexB a c=true
 | [],[],_,h,_=>by cases h
 | [],_::_,[],_,h=>by cases h
 | [],_::_,_::_,_,_=>rfl
 | _::_,[],_,h,_=>by cases h
 | _::_,_::_,[],_,h=>by cases h
 | x :: a, y :: b, z :: c, h, h' => by
  rw[Ha,Gy,blt_eq] at *
  by_cases h1:x=y
  ·by_cases h2:y=z
   ·rw[decide_eq_true h1] at h;rw[decide_eq_true h2] at h'
    rw[decide_eq_true (h1.trans h2)]
    exact L6 (show lexB a b=true from h) (show lexB b c=true from h')
   ·rw[decide_eq_false h2] at h'
    rw[decide_eq_false (by omega)]
    have:y < z:=of_decide_eq_true h'
    exact decide_eq_true (show x < z by omega)
  ·rw[decide_eq_false h1] at h
   have h3:x < y:=of_decide_eq_true h
   by_cases h2:y=z
   ·rw[decide_eq_false (show ¬ x=z by omega)]
    exact decide_eq_true (show x < z by omega)
   ·rw[decide_eq_false h2] at h'
    have h4:y < z:=of_decide_eq_true h'
    rw[decide_eq_false (show ¬ x=z by omega)]
    exact decide_eq_true (show x < z by omega)
theorem PK:∀ {a b:List Nat},lexB a b=false→lexB b a=false→a=b
 | [],[],_,_=>rfl
 | [],_::_,h,_=>by cases h
 | _::_,[],_,h=>by cases h
 | x :: a, y :: b, h, h' => by
  rw[Ha,Gy,blt_eq] at *
  by_cases h1:x=y
  ·rw[decide_eq_true h1] at h;rw[decide_eq_true h1.symm] at h'
   rw[h1,PK (show lexB a b=false from h) (show lexB b a=false from h')]
  ·rw[decide_eq_false h1] at h;rw[decide_eq_false (Ne.symm h1)] at h'
   have h2:¬ x < y:=of_decide_eq_false h
   have h3:¬ y < x:=of_decide_eq_false h'
   omega
def UV (b:List Nat) (cs:List (List Nat)):List Nat:=cs.foldl (fun b c=>bif lexB c b then c else b) b
def Jd (S:List Nat→Prop) (x:List Nat):Prop:=S x∧∀ c,S c→lexB c x=false
theorem Jd.uniq {S:List Nat→Prop} {x y:List Nat} (h:Jd S x) (h':Jd S y):x=y:=PK (h'.2 x h.1) (h.2 y h'.1)
theorem PL : ∀ (cs : List (List Nat)) (b : List Nat), Jd (fun c => c = b ∨ c ∈ cs) (UV b cs)
 | [], b => ⟨.inl rfl, fun c h => by
  rcases h with rfl | h
  ·exact K4 _
  ·cases h⟩
 | c :: cs, b => by
  have h:=PL cs (bif lexB c b then c else b)
  show Jd _ (UV (bif lexB c b then c else b) cs)
  have hall:∀ x,x=b∨x∈c::cs→lexB x (UV (bif lexB c b then c else b) cs)=false:=by
   intro x hx
   have hb:lexB (bif lexB c b then c else b) (UV (bif lexB c b then c else b) cs)=false:=h.2 _ (.inl rfl)
   have key:∀ y,lexB (bif lexB c b then c else b) y=true∨y=(bif lexB c b then c else b)→lexB y (UV (bif lexB c b then c else b) cs)=false:=by
    intro y hy
    rcases hy with hy | rfl
    ·cases hlt:lexB y (UV (bif lexB c b then c else b) cs) with
     | false=>rfl
     | true=>have:=L6 hy hlt;rw[hb] at this;cases this
    ·exact hb
   rcases hx with rfl | hx
   ·cases hc:lexB c x with
    | true=>exact hc ▸ key x (by rw[hc];exact .inl hc)
    | false=>exact hc ▸ key x (by rw[hc];exact .inr rfl)
   ·rcases List.mem_cons.1 hx with rfl | hx
    ·cases hc:lexB x b with
     | true=>exact hc ▸ key x (by rw[hc];exact .inr rfl)
     | false =>
      refine hc ▸ key x ?_
      rw[hc]
      cases hb2:lexB b x with
      | true=>exact .inl hb2
      | false=>exact .inr (PK hc hb2)
    ·exact h.2 x (.inr hx)
  refine⟨?_,hall⟩
  rcases h.1 with h1 | h1
  ·rw[h1]
   cases lexB c b with
   | true=>exact .inr List.mem_cons_self
   | false=>exact .inl rfl
  ·exact .inr (List.mem_cons_of_mem _ h1)
def turnsOf (n s:Nat) (c:List Nat):Prop:=∃ b,b < n∧c=Ay n (Bn n s b)
noncomputable def XP (n s:Nat):List Nat:=UV (Ay n (Bn n s 0)) ((List.range (n - 1)).map fun i=>Ay n (Bn n s (i+1)))
theorem MF {n s:Nat} (hn:0 < n):Jd (turnsOf n s) (XP n s):=by
 have h:=PL ((List.range (n - 1)).map fun i=>Ay n (Bn n s (i+1))) (Ay n (Bn n s 0))
 have e:∀ c,turnsOf n s c↔(c=Ay n (Bn n s 0)∨c∈(List.range (n - 1)).map fun i=>Ay n (Bn n s (i+1))):=fun c=>by
  constructor
  ·rintro⟨b,hb,rfl⟩
   cases b with
   | zero=>exact .inl rfl
   | succ b=>exact .inr (List.mem_map.2 ⟨b,List.mem_range.2 (by omega),rfl⟩)
  ·rintro(rfl | h)
   ·exact⟨0,hn,rfl⟩
   ·obtain⟨i,hi,rfl⟩:=List.mem_map.1 h
    exact⟨i+1,by have:=List.mem_range.1 hi;omega,rfl⟩
 exact⟨(e _).2 h.1,fun c hc=>h.2 c ((e c).1 hc)⟩
theorem QR {n s:Nat} (hn0:0 < n) (hn:n≤31) (hs:s < 2 ^ n):Bn n s 0=s:=by
 refine OO Kb hs fun q hq=>?_
 rw[JP hn hs hn0,decide_eq_true hq,Bool.true_and,Nat.sub_zero,Nat.add_mod_right,Nat.mod_eq_of_lt hq]
noncomputable def FX (n s best p:Nat):Nat:=bif !best.testBit 0 || lexB (Ay n (Bn n s (Gp n (-(p:Int))))) (Ay n best) then Bn n s (Gp n (-(p:Int))) else best
noncomputable def Jf (n s:Nat):Nat:=(Ay n s).foldl (FX n s) s
theorem WY {n p:Nat} (hn:0 < n) (hp:p < n):Gp n (-(p:Int))=(n - p) % n:=by
 have e:(-(p:Int))=(((n - p:Nat)):Int)+(n:Int)*(-1):=by omega
 rw[←Sq (n:=n) (n - p),e]
 unfold Gp
 rw[Int.add_mul_emod_self_left]
theorem Jg {n s p:Nat} (hn0:0 < n) (hn:n≤31) (hs:s < 2 ^ n) (hp:p < n):(Bn n s (Gp n (-(p:Int)))).testBit 0=s.testBit p:=by
 rw[JP hn hs (FM hn0 _),decide_eq_true hn0,Bool.true_and,WY hn0 hp]
 congr 1
 by_cases h:p=0
 ·subst h;rw[Nat.sub_zero,Nat.mod_self,Nat.sub_zero,Nat.zero_add,Nat.mod_self]
 ·rw[Nat.mod_eq_of_lt (show n - p < n by omega),Nat.zero_add,Nat.mod_eq_of_lt (by omega)];omega
theorem Uy {n s:Nat} (hn0:0 < n) (hn:n≤31) (hs:s < 2 ^ n):∀ (r:List Nat) (best:Nat) (S:List Nat),(∀ p∈r,p < n∧s.testBit p=true)→(∃ b,b < n∧best=Bn n s b)→best.testBit 0=true→(∀ p∈S,lexB (Ay n (Bn n s (Gp n (-(p:Int))))) (Ay n best)=false) →
 (∃ b,b < n∧r.foldl (FX n s) best=Bn n s b)∧(r.foldl (FX n s) best).testBit 0=true∧∀ p,p∈S∨p∈r→lexB (Ay n (Bn n s (Gp n (-(p:Int))))) (Ay n (r.foldl (FX n s) best))=false
 | [],best,S,_,h1,h2,h3=>⟨h1,h2,fun p hp=>h3 p (hp.resolve_right (by simp))⟩
 | p :: r, best, S, hr, h1, h2, h3 => by
  obtain⟨hp,hps⟩:=hr p List.mem_cons_self
  have e:FX n s best p=bif lexB (Ay n (Bn n s (Gp n (-(p:Int))))) (Ay n best) then Bn n s (Gp n (-(p:Int))) else best:=by unfold FX;rw[h2];rfl
  have key:(∃ b,b < n∧FX n s best p=Bn n s b)∧(FX n s best p).testBit 0=true∧∀ x∈p::S,lexB (Ay n (Bn n s (Gp n (-(x:Int))))) (Ay n (FX n s best p))=false:=by
   rw[e]
   cases hc:lexB (Ay n (Bn n s (Gp n (-(p:Int))))) (Ay n best) with
   | true =>
    refine⟨⟨_,FM hn0 _,rfl⟩,by show (Bn n s _).testBit 0=true;rw[Jg hn0 hn hs hp];exact hps,fun x hx=>?_⟩
    rcases List.mem_cons.1 hx with rfl | hx
    ·exact K4 _
    ·show lexB _ (Ay n (Bn n s (Gp n (-(p:Int)))))=false
     cases hq:lexB (Ay n (Bn n s (Gp n (-(x:Int))))) (Ay n (Bn n s (Gp n (-(p:Int))))) with
     | false=>rfl
     | true=>have:=L6 hq hc;rw[h3 x hx] at this;cases this
   | false =>
    refine⟨h1,h2,fun x hx=>?_⟩
    rcases List.mem_cons.1 hx with rfl | hx
    ·exact hc
    ·exact h3 x hx
  obtain⟨k1,k2,k3⟩:=key
  obtain⟨a1,a2,a3⟩:=Uy hn0 hn hs r (FX n s best p) (p::S) (fun x hx=>hr x (List.mem_cons_of_mem _ hx)) k1 k2 k3
  refine⟨a1,a2,fun x hx=>a3 x ?_⟩
  rcases hx with hx | hx
  ·exact .inl (List.mem_cons_of_mem _ hx)
  ·rcases List.mem_cons.1 hx with rfl | hx
   ·exact .inl List.mem_cons_self
   ·exact .inr hx
theorem QS {n s:Nat} (hs:s < 4294967296) (hn:0 < n) (h0:s.testBit 0=true):∃ r,Ay n s=0::r:=by
 have hm:0∈Ay n s:=(Dy hs).2 ⟨hn,h0⟩
 have hp:=Gw (n:=n) hs
 cases hl:Ay n s with
 | nil=>rw[hl] at hm;cases hm
 | cons x r =>
  rw[hl] at hm hp
  rcases List.mem_cons.1 hm with rfl | h
  ·exact⟨r,rfl⟩
  ·have:=(List.pairwise_cons.1 hp).1 0 h;omega
theorem XQ {n s:Nat} (hn0:0 < n) (hn:n≤21) (hs:s < 2 ^ n):Ay n (Jf n s)=XP n s∧Jf n s < 2 ^ n:=by
 have hs32:=lt32 (n:=n) (by omega) hs
 have hmem:∀ p∈Ay n s,p < n∧s.testBit p=true:=fun p hp=>(Dy hs32).1 hp
 cases hl:Ay n s with
 | nil =>
  have hz:s=0:=by
   have:=Ke (n:=n) (by omega) hs
   rw[hl] at this;exact this.symm
  have e:Jf n s=s:=by unfold Jf;rw[hl];rfl
  rw[e]
  refine⟨?_,hs⟩
  refine Jd.uniq (S:=turnsOf n s) ⟨⟨0,hn0,by rw[QR hn0 (by omega) hs]⟩,?_⟩ (MF hn0)
  rintro c ⟨b,hb,rfl⟩
  have:Bn n s b=s:=by
   refine OO Kb hs fun q hq=>?_
   rw[JP (by omega) hs hb,hz];simp
  rw[this];exact K4 _
 | cons p r =>
  have hp:=hmem p (by rw[hl];exact List.mem_cons_self)
  have hstep:FX n s s p=(bif !s.testBit 0 || lexB (Ay n (Bn n s (Gp n (-(p:Int))))) (Ay n s) then Bn n s (Gp n (-(p:Int))) else s):=rfl
  have k:(∃ b,b < n∧FX n s s p=Bn n s b)∧(FX n s s p).testBit 0=true∧∀ x∈[p],lexB (Ay n (Bn n s (Gp n (-(x:Int))))) (Ay n (FX n s s p))=false:=by
   rw[hstep]
   cases hc:(!s.testBit 0 || lexB (Ay n (Bn n s (Gp n (-(p:Int))))) (Ay n s)) with
   | true =>
    refine⟨⟨_,FM hn0 _,rfl⟩,by show (Bn n s _).testBit 0=true;rw[Jg hn0 (by omega) hs hp.1];exact hp.2,fun x hx=>?_⟩
    have:x=p:=by simpa using hx
    subst this;exact K4 _
   | false =>
    rw[Bool.or_eq_false_iff] at hc
    refine⟨⟨0,hn0,(QR hn0 (by omega) hs).symm⟩,by simpa using hc.1,fun x hx=>?_⟩
    have:x=p:=by simpa using hx
    subst this;exact hc.2
  obtain⟨k1,k2,k3⟩:=k
  obtain⟨⟨b,hb,hbe⟩,a2,a3⟩:=Uy hn0 (by omega) hs r (FX n s s p) [p] (fun x hx=>hmem x (by rw[hl];exact List.mem_cons_of_mem _ hx)) k1 k2 k3
  have e:Jf n s=r.foldl (FX n s) (FX n s s p):=by unfold Jf;rw[hl];rfl
  rw[←e] at hbe a2 a3
  have hlt:Jf n s < 2 ^ n:=by rw[hbe];exact Kb
  refine⟨Jd.uniq (S:=turnsOf n s) ⟨⟨b,hb,by rw[hbe]⟩,?_⟩ (MF hn0),hlt⟩
  rintro c ⟨d,hd,rfl⟩
  have ht32:=lt32 (n:=n) (s:=Bn n s d) (by omega) Kb
  cases h0:(Bn n s d).testBit 0 with
  | true =>
   rw[JP (by omega) hs hd,decide_eq_true hn0,Bool.true_and,Nat.zero_add] at h0
   have hx:(n - d) % n < n:=Nat.mod_lt _ hn0
   have hin:(n - d) % n∈Ay n s:=(Dy hs32).2 ⟨hx,h0⟩
   have hback:Gp n (-(((n - d) % n:Nat):Int))=d:=by
    rw[WY hn0 hx]
    by_cases hd0:d=0
    ·subst hd0;rw[Nat.sub_zero,Nat.mod_self,Nat.sub_zero,Nat.mod_self]
    ·rw[Nat.mod_eq_of_lt (show n - d < n by omega),Nat.mod_eq_of_lt (by omega)];omega
   have := a3 ((n - d) % n) (by
    rw[hl] at hin
    rcases List.mem_cons.1 hin with h | h
    ·exact .inl (by rw[h];exact List.mem_cons_self)
    ·exact .inr h)
   rw[hback] at this;exact this
  | false =>
   obtain⟨r0,hr0⟩:=QS (lt32 (n:=n) (by omega) hlt) hn0 a2
   rw[hr0]
   have hm:(p+d) % n∈Ay n (Bn n s d):=by
    have hlt2:(p+d) % n < n:=Nat.mod_lt _ hn0
    refine(Dy ht32).2 ⟨hlt2,?_⟩
    rw[JP (by omega) hs hd,decide_eq_true hlt2,Bool.true_and]
    by_cases hd0:d=0
    ·subst hd0;rw[Nat.add_zero,Nat.sub_zero,Nat.mod_eq_of_lt hp.1,Nat.add_mod_right,Nat.mod_eq_of_lt hp.1];exact hp.2
    ·rw[PI hp.1 (by omega) hd];exact hp.2
   cases hc:Ay n (Bn n s d) with
   | nil=>rw[hc] at hm;cases hm
   | cons y r1 =>
    have hy:y≠0:=fun e=>by
     have:y∈Ay n (Bn n s d):=by rw[hc];exact List.mem_cons_self
     have:=((Dy ht32).1 this).2
     rw[e,h0] at this;cases this
    rw[Ha,FY hy,blt_eq]
    show decide (y < 0)=false
    exact decide_eq_false (by omega)
end Go.RgP
set_option maxRecDepth 100000
set_option maxHeartbeats 2000000
namespace Go.RgP
open Go Go.Sp
theorem XR {n s t:Nat} (hn:n≤31) (hs:s < 2 ^ n) (ht:t < 2 ^ n) (h:Ay n s=Ay n t):s=t:=by
 rw[←Ke hn hs,h,Ke hn ht]
end Go.RgP
set_option maxRecDepth 100000
set_option maxHeartbeats 4000000
namespace Go.RgP
open Go Go.Sp Go.RgQM
noncomputable def bM (a b:List Nat):Int:=bif lexB a b then -1 else bif lexB b a then 1 else 0
theorem p98 (k:Nat) (args:List Value):BI (k+1) 56 args=m56 (BI k) L args:=by kernel_rfl
theorem p92 (k:Nat) (args:List Value):BI (k+1) 55 args=m55 (BI k) L args:=by kernel_rfl
theorem vF (k x y:Nat):BI (k+2) 55 [IV (Int.ofNat x),IV (Int.ofNat y)]=some (IV (bif Nat.blt x y then -1 else bif Nat.blt y x then 1 else 0)):=by
 have h98:∀ z:Nat,BI (k+1) 56 [IV (Int.ofNat z)]=some (.bool false):=fun z=>by
  rw[p98]
  show some (Value.bool (nt (Bd (Int.ofNat z) (Int.ofNat z))))=_
  rw[FK,Nat.beq_refl];rfl
 rw[p92]
 show fG (BI (k+1)) L (Int.ofNat x) (Int.ofNat y)=_
 unfold fG
 rw[h98,Ac,show Bf (Value.bool false)=some false from rfl,Ac,h98,Ac,show Bf (Value.bool false)=some false from rfl,Ac]
 show bb (AY (Int.ofNat x) (Int.ofNat y)) (some (IV (-1))) (bb (AY (Int.ofNat y) (Int.ofNat x)) (some (IV 1)) (some (IV 0)))=_
 rw[BB,BB]
 cases Nat.blt x y <;> cases Nat.blt y x <;> rfl
theorem Uz (k:Nat) {a b:List Nat} (ha:a.length < 900000) (f1 f2:Nat):∀ (r r':List Nat) (w i:Nat),a.drop i=r→b.drop i=r'→r.length < w→i≤a.length→i≤b.length →
 O8 (BI (k+2)) L w ⟨a.length,f1,vL a⟩ ⟨b.length,f2,vL b⟩ ⟨a.length,f1,vL a⟩ (Int.ofNat a.length) (Int.ofNat i)=some (IV (bM r r'))
 | _,_,0,_,_,_,h,_,_=>by omega
 | [], r', w + 1, i, hd, hd', _, hi, hi' => by
  show O7 (BI (k+2)) L (O8 (BI (k+2)) L w) ⟨a.length,f1,vL a⟩ ⟨b.length,f2,vL b⟩ ⟨a.length,f1,vL a⟩ (Int.ofNat a.length) (Int.ofNat i)=_
  have h1:a.length≤i:=List.drop_eq_nil_iff.1 hd
  unfold O7
  rw[BB,show Nat.blt i a.length=false from by rw[blt_eq];simp;omega,AA]
  show bb (AY (Int.ofNat a.length) (Int.ofNat b.length)) (some (IV (-1))) (some (IV 0))=_
  rw[BB,blt_eq]
  cases r' with
  | nil =>
   have h2:b.length≤i:=List.drop_eq_nil_iff.1 hd'
   rw[decide_eq_false (by omega)];rfl
  | cons y r' =>
   have:=(FN hd').2.1
   rw[decide_eq_true (by omega)];rfl
 | x :: r, r', w + 1, i, hd, hd', hw, hi, hi' => by
  show O7 (BI (k+2)) L (O8 (BI (k+2)) L w) ⟨a.length,f1,vL a⟩ ⟨b.length,f2,vL b⟩ ⟨a.length,f1,vL a⟩ (Int.ofNat a.length) (Int.ofNat i)=_
  obtain⟨hd2,hi2,_⟩:=FN hd
  have hr:(x::r).length=r.length+1:=rfl
  have hlt:Nat.blt i a.length=true:=by rw[blt_eq];simp;omega
  unfold O7
  rw[BB,hlt,Ak,show EA (Int.ofNat i)=some i from rfl,Ac]
  show bb (an (Nat.blt i a.length) true) (oo (AL (vL a) (i*1)) none _) none=_
  rw[hlt,show an true true=true from rfl,Ak,KV hd,Ac,show ∀ z,Bi .i64 (IV z)=some z from fun _=>rfl,Ac]
  cases r' with
  | nil =>
   have h2:b.length≤i:=List.drop_eq_nil_iff.1 hd'
   show bb (nt (AY (Int.ofNat i) (Int.ofNat b.length))) (some (IV 1)) _=_
   rw[BB,show Nat.blt i b.length=false from by rw[blt_eq];simp;omega];rfl
  | cons y r' =>
   obtain⟨hd3,hi3,_⟩:=FN hd'
   have hlt2:Nat.blt i b.length=true:=by rw[blt_eq];simp;omega
   have ih:=Uz k ha f1 f2 r r' w (i+1) hd2 hd3 (by omega) (by omega) (by omega)
   show bb (nt (AY (Int.ofNat i) (Int.ofNat b.length))) (some (IV 1)) (bb (an (Nat.blt i b.length) true) (oo (AL (vL b) (i*1)) none fun v4808=>oo (Bi .i64 v4808) none fun x4810=>oo (BI (k+2) 55 [IV (Int.ofNat x),IV x4810]) none fun v4816=>oo (Bi .i64 v4816) none fun x4818=>bb (nt (Bd x4818 (0:Int))) (some (IV x4818)) (O8 (BI (k+2)) L w ⟨a.length,f1,vL a⟩ ⟨b.length,f2,vL b⟩ ⟨a.length,f1,vL a⟩ (Int.ofNat a.length) (Aj .i64 (Int.add (Int.ofNat i) (1:Int))))) none)=_
   rw[BB,hlt2,show nt true=false from rfl,AA,show an true true=true from rfl,Ak,KV hd',Ac,show ∀ z,Bi .i64 (IV z)=some z from fun _=>rfl,Ac,vF,Ac,show ∀ z,Bi .i64 (IV z)=some z from fun _=>rfl,Ac,DC i (by omega),ih]
   unfold bM
   rw[Ha,Ha,blt_eq,blt_eq,Gy,Gy]
   by_cases h1:x=y
   ·subst h1
    rw[decide_eq_true rfl,decide_eq_false (Nat.lt_irrefl x)];rfl
   ·rw[decide_eq_false h1,decide_eq_false (Ne.symm h1)]
    by_cases h2:x < y
    ·rw[decide_eq_true h2];rfl
    ·rw[decide_eq_false h2,decide_eq_true (show y < x by omega)];rfl
theorem p52 (k:Nat) (args:List Value):BI (k+1) 49 args=m49 (BI k) L args:=by kernel_rfl
theorem UW (k f1 f2:Nat) {a b:List Nat} (ha:a.length < 900000):BI (k+3) 49 [Sl.v 1 ⟨a.length,f1,vL a⟩,Sl.v 1 ⟨b.length,f2,vL b⟩]=some (IV (bM a b)):=by
 rw[p52]
 exact Uz k ha f1 f2 a b L 0 List.drop_zero List.drop_zero (by show _ < 1000000;omega) (by omega) (by omega)
theorem gG (a b:List Nat):AY (bM a b) 0=lexB a b:=by
 unfold bM
 cases lexB a b with
 | true=>rfl
 | false=>cases lexB b a <;> rfl
end Go.RgP
set_option maxRecDepth 100000
set_option maxHeartbeats 4000000
namespace Go.RgP
open Go Go.Sp Go.RgQM
theorem vG (pu:Af) (L n s:Nat) (x:Int) (hn:0 < n) (hn2:n < 1000):uF pu L [tv n s,IV x]=some (IV (Int.ofNat (Gp n x))):=by
 show Xc pu L (Int.ofNat n) (Int.ofNat s) x=_
 unfold Xc
 have e:Bd (Int.ofNat n) 0=false:=by rw[show (0:Int)=Int.ofNat 0 from rfl,FK];exact FY (by omega)
 rw[e]
 show some (IV (Int.tmod (Aj .i64 (Int.tmod x (n:Int)+(n:Int))) (n:Int)))=some (IV ((Gp n x:Nat):Int))
 have hp:(0:Int) < (n:Int):=by omega
 have g1:=Int.tmod_lt_of_pos x hp
 have g2:-(n:Int) < Int.tmod x n:=by
  have:=Int.lt_tmod_of_pos x hp;omega
 rw[Oe _ (by omega) (by omega),Int.tmod_eq_emod_of_nonneg (by omega),M9 hn]
 have h3:Int.tmod x (n:Int)+(n:Int)=x+(n:Int)*(1 - Int.tdiv x n):=by
  have:=Int.mul_tdiv_add_tmod x (n:Int)
  rw[Int.mul_sub];omega
 rw[h3,Int.add_mul_emod_self_left]
theorem vH (k:Nat) {n s:Nat} {x:Int} (hn:0 < n) (hn2:n≤60):BI (k+1) 47 [tv n s,IV x]=some (IV (Int.ofNat (Gp n x))):=by
 rw[p62];exact vG (BI k) L n s x hn (by omega)
theorem p65 (k:Nat) (args:List Value):BI (k+1) 48 args=m48 (BI k) L args:=by kernel_rfl
theorem XT (k:Nat) {n s b:Nat} (hn:n≤21) (hs:s < 2 ^ n) (hb:b < n):BI (k+1) 48 [tv n s,IV (Int.ofNat b)]=some (tv n (Bn n s b)):=by
 rw[p65]
 show fF (BI k) L (Int.ofNat n) (Int.ofNat s) (Int.ofNat b)=_
 unfold fF
 have hs32:=lt32 (by omega) hs
 have e1:Aj .i64 (Int.sub (Int.ofNat n) (Int.ofNat b))=Int.ofNat (n - b):=by
  show Aj .i64 ((n:Int) - (b:Int))=((n - b:Nat):Int)
  rw[Oe _ (by omega) (by omega)];omega
 have e2:Aj .u32 (Int.sub (QW .u32 (1:Int) n) (1:Int))=Int.ofNat (2 ^ n - 1):=by
  have h1:2 ^ n < 4294967296:=Nat.lt_of_le_of_lt (Nat.pow_le_pow_right (by omega) hn) (by decide)
  have h2:=Nat.two_pow_pos n
  rw[ZR (by omega),show Int.sub (Int.ofNat (2 ^ n)) 1=Int.ofNat (2 ^ n - 1) from by show ((2 ^ n:Nat):Int) - 1=((2 ^ n - 1:Nat):Int);omega]
  exact wrap32 (by omega)
 have e3:QW .u32 (Int.ofNat s) b=Int.ofNat ((s*2 ^ b) % 4294967296):=by
  show Aj .u32 (Int.ofNat (s*2 ^ (min b 32)))=_
  rw[Nat.min_eq_left (by omega)];rfl
 have h4:(s*2 ^ b) % 4294967296 < 4294967296:=Nat.mod_lt _ (by omega)
 have h5:s / 2 ^ (n - b) < 4294967296:=Nat.lt_of_le_of_lt (Nat.div_le_self _ _) hs32
 have h6:(s*2 ^ b) % 4294967296 ||| s / 2 ^ (n - b) < 4294967296:=Nat.or_lt_two_pow (n:=32) h4 h5
 have h7:2 ^ n - 1 < 4294967296:=by
  have h1:2 ^ n < 4294967296:=Nat.lt_of_le_of_lt (Nat.pow_le_pow_right (by omega) hn) (by decide)
  omega
 show oo (EA (Aj .i64 (Int.sub (Int.ofNat n) (Int.ofNat b)))) none (fun k3348=>some (Value.agg ⟨[(.int .i64 (Int.ofNat n)),(.int .u32 (Np .u32 (jF .u32 (QW .u32 (Int.ofNat s) b) (G6 .u32 (Int.ofNat s) k3348)) (Aj .u32 (Int.sub (QW .u32 (1:Int) n) (1:Int)))))]⟩))=_
 rw[e1,show ∀ j,EA (Int.ofNat j)=some j from fun _=>rfl,Ac,e2,e3,nN hs32,ZQ h4 h5,Sn h6 h7];rfl
end Go.RgP
set_option maxRecDepth 100000
set_option maxHeartbeats 4000000
namespace Go.RgP
open Go Go.Sp Go.RgQM
theorem p66 (k:Nat) (args:List Value):BI (k+1) 23 args=m23 (BI k) L args:=by kernel_rfl
theorem gH (k:Nat) {n s:Nat} (hn:n≤60):BI (k+3) 23 [tv n s]=some (Agg n 0 (Ay n s)):=by
 rw[p66]
 show oo (BI (k+2) 46 [tv n s]) none _=_
 rw[KX k hn];rfl
end Go.RgP
set_option maxRecDepth 100000
set_option maxHeartbeats 4000000
namespace Go.RgP
open Go Go.Sp Go.RgQM
theorem bN {p:Nat} (hp:p < 1000):Aj .i64 (Int.sub (.ofNat 0) (Int.ofNat p)) = -(p:Int):=by
 show Aj .i64 ((0:Int) - (p:Int))=_
 rw[Oe _ (by omega) (by omega)];omega
theorem Agh {s:Nat} (hs:s < 4294967296):Bd (Np .u32 (Int.ofNat s) (1:Int)) (0:Int) = !s.testBit 0:=by
 rw[show (1:Int)=Int.ofNat 1 from rfl,Sn hs (by omega),show (0:Int)=Int.ofNat 0 from rfl,FK,Nat.and_one_is_mod,Nat.testBit_zero,Gy]
 by_cases h:s % 2=1
 ·rw[decide_eq_true h,h];rfl
 ·have:s % 2=0:=by omega
  rw[decide_eq_false h,this];rfl
theorem PM (k:Nat) {n s:Nat} (hn0:0 < n) (hn:n≤21) (hs:s < 2 ^ n) {l:List Nat} (hl:l.length≤60) (hln:∀ x∈l,x < n) (z1 z2:Int):∀ (r:List Nat) (w i best:Nat),l.drop i=r→r.length < w→i≤l.length→best < 2 ^ n →
 KJ (BI (k+3)) L w ⟨l.length,0,vL l⟩ (Int.ofNat l.length) (Int.ofNat i) (Int.ofNat n) (Int.ofNat s) z1 z2 (Int.ofNat n) (Int.ofNat best)=some (tv n (r.foldl (FX n s) best))
 | _,0,_,_,_,h,_,_=>by omega
 | [], w + 1, i, best, hd, _, hi, _ => by
  show O4 (BI (k+3)) L (KJ (BI (k+3)) L w) ⟨l.length,0,vL l⟩ (Int.ofNat l.length) (Int.ofNat i) (Int.ofNat n) (Int.ofNat s) z1 z2 (Int.ofNat n) (Int.ofNat best)=_
  have:l.length≤i:=List.drop_eq_nil_iff.1 hd
  unfold O4
  rw[BB,show Nat.blt i l.length=false from by rw[blt_eq];simp;omega];rfl
 | p :: r, w + 1, i, best, hd, hw, hi, hb => by
  show O4 (BI (k+3)) L (KJ (BI (k+3)) L w) ⟨l.length,0,vL l⟩ (Int.ofNat l.length) (Int.ofNat i) (Int.ofNat n) (Int.ofNat s) z1 z2 (Int.ofNat n) (Int.ofNat best)=_
  obtain⟨hd2,hi2,hp⟩:=FN hd
  have hr:(p::r).length=r.length+1:=rfl
  have hlt:Nat.blt i l.length=true:=by rw[blt_eq];simp;omega
  have hpn:=hln p hp
  have hb32:=lt32 (n:=n) (by omega) hb
  have go:=fun b' hb'=>PM k hn0 hn hs hl hln z1 z2 r w (i+1) b' hd2 (by omega) (by omega) hb'
  have m3:∀ c,OG (BI (k+3)) L (KJ (BI (k+3)) L w) ⟨l.length,0,vL l⟩ (Int.ofNat l.length) (Int.ofNat i) c (Int.ofNat n) (Int.ofNat s) z1 z2 (Int.ofNat n) (Int.ofNat best) (Int.ofNat n) (Int.ofNat (Bn n s (Gp n (-(p:Int)))))=some (tv n (r.foldl (FX n s) (bif c then Bn n s (Gp n (-(p:Int))) else best))):=fun c=>by
   unfold OG Uh
   rw[DC i (by omega)]
   cases c with
   | true=>exact go _ Kb
   | false=>exact go _ hb
  unfold O4
  rw[BB,hlt,Ak,show EA (Int.ofNat i)=some i from rfl,Ac]
  show bb (an (Nat.blt i l.length) true) (oo (AL (vL l) (i*1)) none _) none=_
  rw[hlt,show an true true=true from rfl,Ak,KV hd,Ac,show ∀ z,Bi .i64 (IV z)=some z from fun _=>rfl,Ac,bN (by omega)]
  show oo (BI (k+3) 47 [tv n s,IV (-(p:Int))]) none _=_
  rw[vH (k+2) hn0 (by omega),Ac]
  show oo (BI (k+3) 48 [tv n s,IV (Int.ofNat (Gp n (-(p:Int))))]) none _=_
  rw[XT (k+2) hn hs (FM hn0 _),Ac]
  show bb (Bd (Np .u32 (Int.ofNat best) (1:Int)) (0:Int)) (OG (BI (k+3)) L (KJ (BI (k+3)) L w) ⟨l.length,0,vL l⟩ (Int.ofNat l.length) (Int.ofNat i) true (Int.ofNat n) (Int.ofNat s) z1 z2 (Int.ofNat n) (Int.ofNat best) (Int.ofNat n) (Int.ofNat (Bn n s (Gp n (-(p:Int)))))) (oo (BI (k+3) 46 [tv n (Bn n s (Gp n (-(p:Int))))]) none fun v6104=>oo (Bj 1 v6104) none fun s6106=>oo (BI (k+3) 46 [tv n best]) none fun v6108=>oo (Bj 1 v6108) none fun s6110=>oo (BI (k+3) 49 [Sl.v 1 s6106,Sl.v 1 s6110]) none fun v6112=>oo (Bi .i64 v6112) none fun x6114=>OG (BI (k+3)) L (KJ (BI (k+3)) L w) ⟨l.length,0,vL l⟩ (Int.ofNat l.length) (Int.ofNat i) (AY x6114 (0:Int)) (Int.ofNat n) (Int.ofNat s) z1 z2 (Int.ofNat n) (Int.ofNat best) (Int.ofNat n) (Int.ofNat (Bn n s (Gp n (-(p:Int))))))=_
  have hlen:=OA (n:=n) (s:=Bn n s (Gp n (-(p:Int))))
  rw[Agh hb32,m3,KX (k+1) (by omega),KX (k+1) (by omega),Ac,show ∀ sl:Sl,Bj 1 (Sl.v 1 sl)=some sl from fun _=>rfl,Ac,Ac,show ∀ sl:Sl,Bj 1 (Sl.v 1 sl)=some sl from fun _=>rfl,Ac,UW k 0 0 (by omega),Ac,show ∀ z,Bi .i64 (IV z)=some z from fun _=>rfl,Ac,gG,m3]
  show _=some (tv n (r.foldl (FX n s) (FX n s best p)))
  unfold FX
  cases best.testBit 0 <;> rfl
theorem p68 (k:Nat) (args:List Value):BI (k+1) 20 args=m20 (BI k) L args:=by kernel_rfl
theorem bO (k:Nat) {n s:Nat} (hn0:0 < n) (hn:n≤21) (hs:s < 2 ^ n):BI (k+4) 20 [tv n s]=some (tv n (Jf n s)):=by
 have hs32:=lt32 (n:=n) (by omega) hs
 have hlen:=OA (n:=n) (s:=s)
 rw[p68]
 show oo (BI (k+3) 46 [tv n s]) none _=_
 rw[KX (k+1) (by omega),Ac]
 exact PM k hn0 hn hs (by omega) (fun x hx=>((Dy hs32).1 hx).1) 0 0 (Ay n s) L 0 s List.drop_zero (by show _ < 1000000;omega) (by omega) hs
end Go.RgP
set_option maxRecDepth 100000
set_option maxHeartbeats 2000000
namespace Go.RgP
open Go Go.Sp Go.RgQM
def few (D:List Nat) (p:Nat×Nat):Bool:=Nat.ble p.2 (D[p.1 - 1]?.getD 0)
noncomputable def bP (s:Nat):Bool:=Bd (Np .u32 (Int.ofNat s) 1) 1
noncomputable def PN (fl:Nat) (D:List Nat) (b:Bool):Value:=.tuple ⟨[.bool b,.agg ⟨[Sl.v 1 ⟨D.length,fl,vL D⟩]⟩]⟩
theorem RO (pu:Af) (L n s fl:Nat) {D:List Nat} {ps:List (Nat×Nat)} (hD:D.length < 100) (hk:∀ p∈ps,0 < p.1∧p.1≤D.length):∀ (w:Nat) (seen:List Nat),(left ps.length seen).length < w →
 IB pu L w ⟨D.length,fl,vL D⟩ (Int.ofNat n) (Int.ofNat s) ps.length seen ps.length (Bp ps) ps.length=some (PN fl D (an ((left ps.length seen).all fun i=>few D (Dn ps i)) (bP s)))
 | 0,_,h=>by omega
 | w + 1, seen, h => by
  show KT pu L (IB pu L w) ⟨D.length,fl,vL D⟩ (Int.ofNat n) (Int.ofNat s) ps.length seen ps.length (Bp ps) ps.length=_
  unfold KT
  rw[O9,Ak,show Nat.ble ps.length ps.length=true from Nat.ble_eq_true_of_le (Nat.le_refl _),Ak,BO]
  refine VV (fun hl=>?_) fun e he=>?_
  ·rw[Ov hl,Ak];rfl
  ·obtain⟨d,c,h1,h2⟩:=Ph he
   obtain⟨hd,hd2⟩:=hk (d,c) (List.mem_of_getElem? h1)
   have hd:0 < d:=hd
   have hd2:d≤D.length:=hd2
   have ep:Dn ps e.born=(d,c):=by simp[Dn,h1]
   have hall:((left ps.length seen).all fun i=>few D (Dn ps i))=(few D (d,c) && ((left ps.length (Br seen [e.born])).all fun i=>few D (Dn ps i))):=by
    rw[(QF h2).all_eq,List.all_cons,ep]
   rw[Ak,Oi ps seen e.born d c h1,Ac]
   have ih:=RO pu L n s fl hD hk w (Br seen [e.born]) (by have:=Ow h2;omega)
   have hw:Aj .i64 (Int.sub (Int.ofNat d) 1)=Int.ofNat (d - 1):=by
    show Aj .i64 ((d:Int) - 1)=((d - 1:Nat):Int)
    rw[Oe _ (by omega) (by omega)];omega
   have hg:AL (vL D) ((d - 1)*1)=some (IV (Int.ofNat (D[d - 1]?.getD 0))):=by
    rw[BZ,Nat.mul_one];unfold vL
    rw[List.getElem?_map]
    have hlt:d - 1 < D.length:=by omega
    simp[hlt]
   show oo (EA (Aj .i64 (Int.sub (Int.ofNat d) 1))) none (fun k7695=>(bb (an (Nat.blt k7695 D.length) true) (oo (AL (vL D) (k7695*1)) none fun v7698=>(oo (Bi .i64 v7698) none fun x7700=>(bb (AY x7700 (Int.ofNat c)) (some (PN fl D false)) (IB pu L w ⟨D.length,fl,vL D⟩ (Int.ofNat n) (Int.ofNat s) ps.length (Br seen [e.born]) ps.length (Bp ps) ps.length)))) none))=_
   rw[hw,show EA (Int.ofNat (d - 1))=some (d - 1) from rfl,Ac,show Nat.blt (d - 1) D.length=true from by rw[blt_eq];simp;omega,show an true true=true from rfl,Ak,hg,Ac]
   show bb (AY (Int.ofNat (D[d - 1]?.getD 0)) (Int.ofNat c)) _ _=_
   rw[BB,ih,hall]
   unfold few
   show bb (Nat.blt (D[d - 1]?.getD 0) c) _ _=some (PN fl D (an (Nat.ble c (D[d - 1]?.getD 0) && _) _))
   by_cases hc:c≤D[d - 1]?.getD 0
   ·rw[show Nat.blt (D[d - 1]?.getD 0) c=false from by rw[blt_eq];simp;omega,show Nat.ble c (D[d - 1]?.getD 0)=true from Nat.ble_eq_true_of_le hc];rfl
   ·rw[show Nat.blt (D[d - 1]?.getD 0) c=true from by rw[blt_eq];simp;omega,show Nat.ble c (D[d - 1]?.getD 0)=false from by rw[ble_eq];simp;omega];rfl
theorem XU (f:Nat×Nat→Bool) (ps:List (Nat×Nat)):((List.range ps.length).all fun i=>f (Dn ps i))=ps.all f:=by
 have:(List.range ps.length).map (Dn ps)=ps:=by
  apply List.ext_getElem
  ·simp
  ·intro i h1 h2;simp[Dn,h2]
 conv=>rhs;rw[←this]
 rw[List.all_map];rfl
theorem WZ (pu:Af) (L:Nat) {n s fl:Nat} {D:List Nat} (hD:D.length < 100) (hn:n≤D.length+1) (hL:(DL n s).length < L) (hc:pu 10170 [tv n s]=some (I9 (DL n s))) :
 Jc pu L (Int.ofNat n) (Int.ofNat s) ⟨D.length,fl,vL D⟩=some (PN fl D (an ((DL n s).all (few D)) (bP s))):=by
 unfold Jc
 have hc':pu 10170 [.agg ⟨[.int .i64 (Int.ofNat n),.int .u32 (Int.ofNat s)]⟩]=some (I9 (DL n s)):=hc
 rw[hc',Ac]
 show oo (Fj (Ef (.map (Bp (DL n s)) (DL n s).length))) none _=_
 rw[CX,Ac]
 show bb (Au F4 (Bp (DL n s))) (bb (Au F4 (Bp (DL n s))) (IB pu L L ⟨D.length,fl,vL D⟩ (Int.ofNat n) (Int.ofNat s) (DL n s).length [] (DL n s).length (Bp (DL n s)) (DL n s).length) none) none=_
 rw[BO,Ak,Ak,RO pu L n s fl hD (fun p hp=>by have:=(JN n s).1 p hp;omega) L [] (by rw[Jw];simpa using hL),Jw,XU (few D)]
end Go.RgP
set_option maxRecDepth 100000
set_option maxHeartbeats 4000000
namespace Go.RgP
open Go Go.Sp Go.RgQM
def ext:Nat→Nat→Nat→List Nat→List (List Nat)
 | _,0,_,l=>[l]
 | 0,_+1,_,_=>[]
 | r+1,m+1,p,l=>ext r m (p+1) (l++[p])++ext r (m+1) (p+1) l
theorem K5 (r p:Nat) (l:List Nat):ext r 0 p l=[l]:=by cases r <;> rfl
theorem OC:∀ {r m:Nat},r < m→∀ (p:Nat) (l:List Nat),ext r m p l=[]
 | 0,0,h,_,_=>by omega
 | 0,m+1,_,_,_=>rfl
 | r+1,0,h,_,_=>by omega
 | r + 1, m + 1, h, p, l => by
  show ext r m (p+1) (l++[p])++ext r (m+1) (p+1) l=[]
  rw[OC (by omega),OC (by omega)];rfl
def vI:Nat→Nat→Nat
 | _,0=>1
 | 0,_+1=>0
 | r+1,m+1=>vI r m+vI r (m+1)
theorem SA:∀ (r m p:Nat) (l:List Nat),(ext r m p l).length=vI r m
 | 0,0,_,_=>rfl
 | r+1,0,_,_=>rfl
 | 0,m+1,_,_=>rfl
 | r + 1, m + 1, p, l => by
  show (ext r m (p+1) (l++[p])++ext r (m+1) (p+1) l).length=vI r m+vI r (m+1)
  rw[List.length_append,SA r m,SA r (m+1)]
theorem vJ:∀ (m r:Nat),r≤21→m≤6→vI r m≤60000:=by
 have h:∀ m∈List.range 7,∀ r∈List.range 22,vI r m≤60000:=by decide
 intro m r h1 h2
 exact h m (List.mem_range.2 (by omega)) r (List.mem_range.2 (by omega))
structure Part (n p:Nat) (l:List Nat) (m:Nat):Prop where
 good:Good n l
 low:∀ x∈l,x < p
 few:l.length+m≤6
theorem Part.snoc {n p m:Nat} {l:List Nat} (h:Part n p l (m+1)) (hp:p < n):Part n (p+1) (l++[p]) m:=by
 have hf:=h.few
 refine⟨⟨h.good.pos,h.good.le,by simp;omega,?_,fun x hx=>?_⟩,fun x hx=>?_,by simp;omega⟩
 ·rw[List.pairwise_append]
  exact⟨h.good.up,List.pairwise_singleton _ _,fun a ha b hb=>by rw[List.mem_singleton.1 hb];exact h.low a ha⟩
 ·rcases List.mem_append.1 hx with hx | hx
  ·exact h.good.lt x hx
  ·rw[List.mem_singleton.1 hx];exact hp
 ·rcases List.mem_append.1 hx with hx | hx
  ·have:=h.low x hx;omega
  ·rw[List.mem_singleton.1 hx];omega
theorem Part.skip {n p m:Nat} {l:List Nat} (h:Part n p l m):Part n (p+1) l m:=⟨h.good,fun x hx=>by have:=h.low x hx;omega,h.few⟩
theorem UA {n m:Nat} (h0:0 < n) (hn:n≤21) (hm:m≤6):Part n 0 [] m:=⟨⟨h0,hn,by simp,.nil,fun x hx=>by (cases hx)⟩,fun x hx=>by (cases hx),by simpa using hm⟩
theorem Nc {n:Nat}:∀ (r m p:Nat) (l:List Nat),Part n p l m→p+r=n→∀ x∈ext r m p l,Good n x∧x.length=l.length+m∧∃ t,x=l++t
 | r, 0, p, l, h, _, x, hx => by
  rw[K5] at hx
  rw[List.mem_singleton.1 hx]
  exact⟨h.good,rfl,[],by simp⟩
 | 0,m+1,p,l,_,_,x,hx=>by cases hx
 | r + 1, m + 1, p, l, h, hr, x, hx => by
  have hx:x∈ext r m (p+1) (l++[p])++ext r (m+1) (p+1) l:=hx
  rcases List.mem_append.1 hx with hx | hx
  ·obtain⟨h1,h2,t,h3⟩:=Nc r m (p+1) (l++[p]) (h.snoc (by omega)) (by omega) x hx
   refine⟨h1,by rw[h2];simp;omega,p::t,by rw[h3];simp⟩
  ·exact Nc r (m+1) (p+1) l h.skip (by omega) x hx
theorem UB (l:List Nat) (p:Nat):bitsOf (l++[p])=bitsOf l ||| 2 ^ p:=by
 unfold bitsOf setOf
 rw[List.foldl_append];rfl
theorem UC (n:Nat) (l t:List Nat) (d:Nat):K3 n l d≤K3 n (l++t) d:=by
 unfold K3
 rw[List.countP_append]
 have:l.countP (fun a=>decide ((a+d) % n∈l))≤l.countP (fun a=>decide ((a+d) % n∈l++t)):=by
  apply List.countP_mono_left
  intro a _ h
  rw[decide_eq_true_eq] at h ⊢
  exact List.mem_append_left _ h
 omega
theorem K6 {α:Type} {p:α→Bool} {l:List α} (h:∀ x∈l,p x=false):l.filter p=[]:=List.filter_eq_nil_iff.2 fun x hx=>by rw[h x hx];simp
theorem min_zero {n:Nat} {l:List Nat} (h:Good n l) (hm:XP n (bitsOf l)=l) (hl:l≠[]):0∈l:=by
 have hn:=h.le
 have hs:=HY h.lt
 have hs32:=lt32 (n:=n) (by omega) hs
 cases l with
 | nil=>exact absurd rfl hl
 | cons a t =>
  have ha:=h.lt a List.mem_cons_self
  have hbit:(bitsOf (a::t)).testBit a=true:=by rw[Kc];simp
  have h0:(Bn n (bitsOf (a::t)) (Gp n (-(a:Int)))).testBit 0=true:=by rw[Jg h.pos (by omega) hs ha];exact hbit
  obtain⟨r,hr⟩:=QS (n:=n) (lt32 (n:=n) (by omega) Kb) h.pos h0
  have hle:=(MF (n:=n) (s:=bitsOf (a::t)) h.pos).2 _ ⟨Gp n (-(a:Int)),FM h.pos _,rfl⟩
  rw[hm,hr,Ha] at hle
  by_cases hz:a=0
  ·rw[hz];exact List.mem_cons_self
  ·rw[show Nat.beq 0 a=false from by cases a with | zero=>exact absurd rfl hz | succ a=>rfl] at hle
   rw[show Nat.blt 0 a=true from by rw[blt_eq];simp;omega] at hle
   cases hle
noncomputable def Co (n:Nat) (D:List Nat) (l:List Nat):Bool:=decide (XP n (bitsOf l)=l) && decide (Gm n l=D)
noncomputable def RP (n:Nat) (D:List Nat) (l:List Nat):Bool:=((DL n (bitsOf l)).all (few D)) && (bitsOf l).testBit 0
theorem bQ {a x:Nat} {t u:List Nat} (h:(a::t).Pairwise (· < ·)) (h0:0∈a::t):a=0:=by
 rcases List.mem_cons.1 h0 with h0 | h0
 ·exact h0.symm
 ·have:=(List.pairwise_cons.1 h).1 0 h0;omega
theorem UX {n:Nat} {D l t:List Nat} (hl:Good n l) (hne:l≠[]) (hx:Good n (l++t)) (h:RP n D l=false):Co n D (l++t)=false:=by
 cases hg:Co n D (l++t) with
 | false=>rfl
 | true =>
  exfalso
  unfold Co at hg
  rw[Bool.and_eq_true,decide_eq_true_eq,decide_eq_true_eq] at hg
  obtain⟨g1,g2⟩:=hg
  have h0:=min_zero hx g1 (by cases l with | nil=>exact absurd rfl hne | cons a l=>simp)
  have hz:0∈l:=by
   cases l with
   | nil=>exact absurd rfl hne
   | cons a l=>rw[bQ (x:=0) (u:=[]) hx.up h0];exact List.mem_cons_self
  have hn:=hl.le
  have hs32:=hl.lt32
  have hb:(bitsOf l).testBit 0=true:=by rw[Kc];exact decide_eq_true hz
  have:RP n D l=true:=by
   unfold RP
   rw[hb,Bool.and_true,List.all_eq_true]
   intro p hp
   obtain⟨k1,k2⟩:=(JN n (bitsOf l)).1 p hp
   have e1:look p.1 (DL n (bitsOf l))=p.2:=Uw (JN n (bitsOf l)).2 hp
   rw[Uq hs32 k1 k2,hl.marks] at e1
   have e2:=UC n l t p.1
   have e3:D[p.1 - 1]?=some (K3 n (l++t) p.1):=by
    rw[←g2,QO (by omega),show p.1 - 1+1=p.1 by omega]
   unfold few
   rw[e3]
   exact Nat.ble_eq_true_of_le (by show p.2≤K3 n (l++t) p.1;omega)
  rw[this] at h;cases h
end Go.RgP
set_option maxRecDepth 100000
set_option maxHeartbeats 4000000
namespace Go.RgP
open Go Go.Sp Go.RgQM
noncomputable def pT (i:Nat):Value:=.pointer (some ⟨i,0,none⟩)
theorem vK {n p:Nat} {l:List Nat} (h:Good n l) (hp:p < n):jF .u32 (Int.ofNat (bitsOf l)) (QW .u32 (1:Int) p)=Int.ofNat (bitsOf (l++[p])):=by
 have hn:=h.le
 rw[ZR (by omega),ZQ h.lt32 (Nat.lt_of_lt_of_le (Nat.pow_lt_pow_right (by omega) (by omega:p < 32)) (by decide)),UB]
theorem AeA {a b:Nat} (h:a+b < 1000000):Aj .i64 (Int.add (Int.ofNat a) (Int.ofNat b))=Int.ofNat (a+b):=Oe _ (by show _≤((a+b:Nat):Int);omega) (by show ((a+b:Nat):Int)≤_;omega)
theorem Agi {a:Nat} (h:a < 1000000):Aj .i64 (Int.sub (Int.ofNat (a+1)) (1:Int))=Int.ofNat a:=by
 have e:Int.sub (Int.ofNat (a+1)) (1:Int)=Int.ofNat a:=by show ((a+1:Nat):Int) - 1=((a:Nat):Int);omega
 rw[e];exact Oe _ (by show _≤((a:Nat):Int);omega) (by show ((a:Nat):Int)≤_;omega)
end Go.RgP
set_option maxRecDepth 100000
set_option maxHeartbeats 4000000
namespace Go.RgP
open Go Go.Sp Go.RgQM
noncomputable def mkS (p:Nat×List Nat):Sl:=⟨p.2.length,p.1,vL p.2⟩
noncomputable def qW (n:Nat) (q:List (Nat×List Nat)):List Value:=q.flatMap fun p=>[IV (Int.ofNat n),Sl.v 1 (mkS p)]
def z0 (q:List (List Nat)):List (Nat×List Nat):=q.map fun l=>(0,l)
theorem vM (n:Nat) (a b:List (Nat×List Nat)):qW n (a++b)=qW n a++qW n b:=by unfold qW;rw[List.flatMap_append]
theorem SB (n:Nat):∀ q:List (Nat×List Nat),(qW n q).length=q.length*2
 | []=>rfl
 | p :: q => by
  show (qW n q).length+1+1=(q.length+1)*2
  rw[SB n q];omega
theorem CY (n:Nat):∀ q:List (Nat×List Nat),Au Ah (qW n q)=true
 | []=>rfl
 | p :: q => by
  show an true (an (Ah (Sl.v 1 (mkS p))) (Au Ah (qW n q)))=true
  rw[CY n q];rfl
theorem gI (n:Nat) (q:List (Nat×List Nat)):Aq (q.length*2) (qW n q)=qW n q:=by rw[Cg,←SB n q,List.take_length]
theorem W9 (n:Nat) (q:List (Nat×List Nat)):Am 0 (qW n q)=qW n q:=by rw[Bz,List.drop_zero]
def UD (c len:Nat):Prop:=c / 2=len∧c % 2=0
theorem gK (n:Nat):UD (2*n+bb false 1 0) n:=⟨by show (2*n+0) / 2=n;omega,by show (2*n+0) % 2=0;omega⟩
theorem gL {n c k:Nat} {q:List (Nat×List Nat)} (hk:0 < k) (hq:q.length+k≤1000000000) (hc:UD c q.length):GV 2 32 q.length c k (qW n q)=true:=by
 unfold GV EQ
 rw[AV,SB,hc.1,hc.2]
 rw[show Nat.ble ((4*(q.length+k)+4096)*32) 281474976710656=true from Nat.ble_eq_true_of_le (by omega),show Nat.ble (q.length+k) q.length=false from by rw[ble_eq];simp;omega,show Nat.ble (0+q.length*2) (q.length*2)=true from Nat.ble_eq_true_of_le (by omega),Nat.zero_add,show Nat.beq (q.length*2) (q.length*2)=true from Nat.beq_refl _]
 rfl
theorem UY {n c:Nat} {q:List (Nat×List Nat)} (hc:UD c q.length):Dp (Nat.ble 2 c) (MQ (qW n q))=true:=by
 cases q with
 | nil=>rw[Ed,show MQ (qW n [])=true from rfl,Bool.or_true]
 | cons a q =>
  have h1:c / 2=q.length+1:=hc.1
  rw[show Nat.ble 2 c=true from Nat.ble_eq_true_of_le (by omega)];rfl
theorem vN (n:Nat) (q:List (Nat×List Nat)) (e:Value):bb (Au Ah (qW n q)) (bb (an (Nat.ble (0+q.length*2) (len (qW n q))) (Au Ah (Aq (q.length*2) (Am 0 (qW n q))))) (some (Value.tuple ⟨[Sl.v 2 (Sl.mk q.length 0 (Aq (q.length*2) (Am 0 (qW n q)))),e]⟩)) none) none=some (Value.tuple ⟨[Sl.v 2 (Sl.mk q.length 0 (qW n q)),e]⟩):=by
 rw[CY,Ak,W9,gI,CY,AV,SB,show Nat.ble (0+q.length*2) (q.length*2)=true from Nat.ble_eq_true_of_le (by omega)];rfl
theorem PO (pu:Af) (L:Nat) {a b:List Nat} (hab:a.length=b.length) (ha:a.length < 900000) (f1 f2:Nat):∀ (r r':List Nat) (w i:Nat),a.drop i=r→b.drop i=r'→r.length < w→i≤a.length →
 OH pu L w ⟨a.length,f1,vL a⟩ ⟨b.length,f2,vL b⟩ (Int.ofNat a.length) (Int.ofNat i)=some (.bool (decide (r=r')))
 | _,_,0,_,_,_,h,_=>by omega
 | [], r', w + 1, i, hd, hd', _, hi => by
  show O5 pu L (OH pu L w) ⟨a.length,f1,vL a⟩ ⟨b.length,f2,vL b⟩ (Int.ofNat a.length) (Int.ofNat i)=_
  have h1:a.length≤i:=List.drop_eq_nil_iff.1 hd
  have h2:r'=[]:=by rw[←hd'];exact List.drop_eq_nil_iff.2 (by omega)
  subst h2
  unfold O5
  rw[BB,show Nat.blt i a.length=false from by rw[blt_eq];simp;omega];simp;rfl
 | x :: r, r', w + 1, i, hd, hd', hw, hi => by
  show O5 pu L (OH pu L w) ⟨a.length,f1,vL a⟩ ⟨b.length,f2,vL b⟩ (Int.ofNat a.length) (Int.ofNat i)=_
  obtain⟨hd2,hi2,_⟩:=FN hd
  cases r' with
  | nil =>
   have h1:b.length≤i:=List.drop_eq_nil_iff.1 hd'
   omega
  | cons y r' =>
   obtain⟨hd3,_,_⟩:=FN hd'
   have hr:(x::r).length=r.length+1:=rfl
   have hlt:Nat.blt i a.length=true:=by rw[blt_eq];simp;omega
   have hlt2:Nat.blt i b.length=true:=by rw[blt_eq];simp;omega
   have ih:=PO pu L hab ha f1 f2 r r' w (i+1) hd2 hd3 (by omega) (by omega)
   unfold O5
   rw[BB,hlt,Ak,show EA (Int.ofNat i)=some i from rfl,Ac]
   show bb (an (Nat.blt i a.length) true) (oo (AL (vL a) (i*1)) none fun v=>oo (Bi .i64 v) none fun x1=>bb (an (Nat.blt i b.length) true) (oo (AL (vL b) (i*1)) none fun v=>oo (Bi .i64 v) none fun x2=>bb (nt (Bd x1 x2)) (some (.bool false)) (OH pu L w ⟨a.length,f1,vL a⟩ ⟨b.length,f2,vL b⟩ (Int.ofNat a.length) (Aj .i64 (Int.add (Int.ofNat i) (1:Int))))) none) none=_
   rw [hlt, show an true true = true from rfl, Ak, KV hd, Ac, show ∀ z, Bi .i64 (IV z) = some z from fun _ => rfl, Ac, hlt2, show an true true = true from rfl, Ak, KV hd', Ac,
    show ∀ z,Bi .i64 (IV z)=some z from fun _=>rfl,Ac,DC i (by omega),ih,FK,Gy]
   by_cases h:x=y
   ·subst h;simp
   ·have hc:¬ (x::r=y::r'):=fun e=>h (by injection e)
    rw[decide_eq_false h,decide_eq_false hc];rfl
theorem q88 (k:Nat) (args:List Value):BI (k+1) 21 args=m21 (BI k) L args:=by kernel_rfl
theorem bR (k f1 f2:Nat) {a b:List Nat} (ha:a.length < 900000):BI (k+1) 21 [Sl.v 1 ⟨a.length,f1,vL a⟩,Sl.v 1 ⟨b.length,f2,vL b⟩]=some (.bool (decide (a=b))):=by
 rw[q88]
 show bb (nt (Bd (Int.ofNat a.length) (Int.ofNat b.length))) (some (.bool false)) (OH (BI k) L L ⟨a.length,f1,vL a⟩ ⟨b.length,f2,vL b⟩ (Int.ofNat a.length) (0:Int))=_
 rw[FK,Gy]
 by_cases h:a.length=b.length
 ·rw[decide_eq_true h,show nt true=false from rfl,AA]
  exact PO (BI k) L h ha f1 f2 a b L 0 (List.drop_zero) (List.drop_zero) (by show _ < 1000000;omega) (by omega)
 ·have:¬ a=b:=fun e=>h (by rw[e])
  rw[decide_eq_false h,decide_eq_false this];rfl
theorem vO (k:Nat) (args:List Value):BI (k+1) 10160 args=Ni (BI k) L args:=by kernel_rfl
theorem gM {s:Nat} (hs:s < 4294967296):bP s=s.testBit 0:=by
 unfold bP
 rw[show (1:Int)=Int.ofNat 1 from rfl,Sn hs (by omega),FK,Nat.and_one_is_mod,Nat.testBit_zero,Gy]
theorem gP (k fl:Nat) {n:Nat} {l D:List Nat} (h:Good n l) (hD:D.length=n - 1):BI (k+4) 10160 [tv n (bitsOf l),pT 1,.agg ⟨[Sl.v 1 ⟨D.length,fl,vL D⟩]⟩]=some (PN fl D (RP n D l)):=by
 have hn:=h.le
 have h0:=h.pos
 rw[vO]
 show Jc (BI (k+3)) L (Int.ofNat n) (Int.ofNat (bitsOf l)) ⟨D.length,fl,vL D⟩=_
 rw[WZ (BI (k+3)) L (by omega) (by omega) (Sm (by omega)) (JO k h0 (by omega)),gM h.lt32]
 unfold RP
 rw[CF]
noncomputable def fnE:Value:=.func (.func 16) ⟨[]⟩ ⟨[pT 1]⟩
noncomputable def fnG:Value:=.func (.func 19) ⟨[]⟩ ⟨[pT 1,pT 2]⟩
noncomputable def XZ (fl:Nat) (D:List Nat) (n:Nat) (q:List (Nat×List Nat)) (c:Nat):Value:=
 .tuple ⟨[.bool true,.agg ⟨[Sl.v 1 ⟨D.length,fl,vL D⟩]⟩,.agg ⟨[.slice (some ⟨4,0,some 2⟩) q.length c]⟩,EP,.agg ⟨qW n q⟩]⟩
noncomputable def in3 (fl:Nat) (D:List Nat) (n:Nat) (q:List (Nat×List Nat)) (c:Nat):List Value:=
 [.agg ⟨[Sl.v 1 ⟨D.length,fl,vL D⟩]⟩,.agg ⟨[.slice (some ⟨3,0,some 2⟩) q.length c]⟩,.agg ⟨qW n q⟩]
theorem vP (k:Nat) (args:List Value):BI (k+1) 10190 args=Nh (BI k) L args:=by kernel_rfl
theorem bS (k:Nat) (args:List Value):BI (k+1) 10180 args=Ng (BI k) L args:=by kernel_rfl
theorem bT {n:Nat} {l:List Nat} (h:Good n l):Nat.beq (Jf n (bitsOf l)) (bitsOf l)=decide (XP n (bitsOf l)=l):=by
 have hn:=h.le
 have hs:=HY h.lt
 obtain⟨e1,e2⟩:=XQ h.pos hn hs
 rw[Gy]
 apply decide_eq_decide.2
 constructor
 ·intro e;rw[←e1,e,h.marks]
 ·intro e
  apply XR (n:=n) (by omega) e2 hs
  rw[e1,e,h.marks]
theorem vQ (k fl:Nat) {n c:Nat} {l D:List Nat} {q:List (Nat×List Nat)} (h:Good n l) (hD:D.length=n - 1) (hc:UD c q.length) (hq:q.length+1≤1000000000) :
 ∃ c',UD c' (q++z0 (bif Co n D l then [l] else [])).length∧BI (k+6) 10190 ([tv n (bitsOf l),pT 1,pT 2]++in3 fl D n q c)=some (XZ fl D n (q++z0 (bif Co n D l then [l] else [])) c'):=by
 have hn:=h.le
 have h0:=h.pos
 have hs:=HY h.lt
 have hm:∀ b,∃ c',UD c' (q++z0 (bif b then [l] else [])).length∧Iz (BI (k+5)) L b ⟨D.length,fl,vL D⟩ q.length c (Int.ofNat n) (Int.ofNat (bitsOf l)) (qW n q)=some (XZ fl D n (q++z0 (bif b then [l] else [])) c'):=by
  intro b
  cases b with
  | true =>
   refine⟨2*(q.length+1)+bb false 1 0,?_,?_⟩
   ·have:(q++z0 (bif true then [l] else [])).length=q.length+1:=by simp[z0]
    rw[this];exact gK _
   ·unfold Iz
    rw[Ak]
    show oo (BI (k+5) 23 [tv n (bitsOf l)]) none _=_
    rw[gH (k+2) (by omega),h.marks,Ac]
    show bb (GV 2 32 q.length c 1 (qW n q)) (bb (Au Ah (Br (Am 0 (qW n q)) [IV (Int.ofNat n),Sl.v 1 ⟨l.length,0,vL l⟩])) (Hy (BI (k+5)) L ⟨D.length,fl,vL D⟩ (q.length+1) (2*(q.length+1)+bb false 1 0) (Br (Am 0 (qW n q)) [IV (Int.ofNat n),Sl.v 1 ⟨l.length,0,vL l⟩])) none) none=_
    have e:Br (Am 0 (qW n q)) [IV (Int.ofNat n),Sl.v 1 ⟨l.length,0,vL l⟩]=qW n (q++z0 [l]):=by rw[vM,BH,W9];rfl
    rw[gL (by omega) hq hc,Ak,e,CY,Ak]
    unfold Hy
    rw[CY,Ak]
    unfold XZ
    show _=some (Value.tuple ⟨[.bool true,.agg ⟨[Sl.v 1 ⟨D.length,fl,vL D⟩]⟩,.agg ⟨[.slice (some ⟨4,0,some 2⟩) (q++z0 [l]).length (2*(q.length+1)+bb false 1 0)]⟩,EP,.agg ⟨qW n (q++z0 [l])⟩]⟩)
    rw[show (q++z0 [l]).length=q.length+1 from by simp[z0]]
  | false =>
   refine⟨c,?_,?_⟩
   ·have:(q++z0 (bif false then [l] else []))=q:=by simp[z0]
    rw[this];exact hc
   ·have:(q++z0 (bif false then [l] else []))=q:=by simp[z0]
    rw[this]
    unfold Iz Hy
    rw[AA,CY,Ak,Ak];rfl
 have hdist:=bJ (k+1) h
 unfold nO at hdist
 rw[vP]
 show ∃ c',_∧LJ (BI (k+5)) L (Int.ofNat n) (Int.ofNat (bitsOf l)) ⟨D.length,fl,vL D⟩ q.length c (qW n q)=_
 unfold LJ
 rw[CY,Ak]
 show ∃ c',_∧oo (BI (k+5) 20 [tv n (bitsOf l)]) none _=_
 rw[bO (k+1) h0 hn hs,Ac]
 show ∃ c',_∧bb (bq true (an (Bd (Int.ofNat n) (Int.ofNat n)) (an (Bd (Int.ofNat (Jf n (bitsOf l))) (Int.ofNat (bitsOf l))) true))) (oo (BI (k+5) 22 [tv n (bitsOf l)]) none _) _=_
 rw[FK,FK,bT h,show Nat.beq n n=true from Nat.beq_refl n,hdist]
 have hb:∀ b:Bool,bq true (an true (an b true))=b:=fun b=>by cases b <;> rfl
 rw[hb,Ac,show ∀ sl:Sl,Bj 1 (Sl.v 1 sl)=some sl from fun _=>rfl,Ac,bR (k+4) 0 fl (by rw[OB];omega),Ac,BU,Ac]
 unfold Co
 by_cases hg:XP n (bitsOf l)=l
 ·rw[decide_eq_true hg,Ak,Bool.true_and];exact hm _
 ·rw[decide_eq_false hg,AA,Bool.false_and];exact hm false
noncomputable def Agj (n s p m fl:Nat) (D:List Nat) (q:List (Nat×List Nat)) (c:Nat):List Value:=[tv n s,IV (Int.ofNat p),IV (Int.ofNat m),fnE,fnG]++in3 fl D n q c
def Pg (N n fl:Nat) (D:List Nat) (m:Nat):Prop:=∀ (r p:Nat) (l:List Nat) (q:List (Nat×List Nat)) (c:Nat),Part n p l m→p+r=n→(m=0∨True)→UD c q.length→q.length+(ext r m p l).length≤1000000000 →
 ∃ c',UD c' (q++z0 ((ext r m p l).filter (Co n D))).length∧BI N 10180 (Agj n (bitsOf l) p m fl D q c)=some (XZ fl D n (q++z0 ((ext r m p l).filter (Co n D))) c')
theorem X0 (N m fl:Nat) {n:Nat} {D:List Nat} (hD:D.length=n - 1) (hN:4≤N) (ihm:Pg N n fl D m) :
 ∀ (r w p : Nat) (l : List Nat) (q : List (Nat × List Nat)) (c : Nat), r < w → p + r = n → Part n p l (m + 1) → UD c q.length → q.length + (ext r (m + 1) p l).length ≤ 1000000000 →
  ∃ c',UD c' (q++z0 ((ext r (m+1) p l).filter (Co n D))).length∧Gv (BI N) L w (Int.ofNat (m+1)) (Int.ofNat p) ⟨D.length,fl,vL D⟩ q.length c (Int.ofNat n) (Int.ofNat (bitsOf l)) (qW n q)=some (XZ fl D n (q++z0 ((ext r (m+1) p l).filter (Co n D))) c'):=by
 intro r
 induction r with
 | zero =>
  intro w p l q c hw hr hP hc _
  obtain⟨w,rfl⟩:∃ v,w=v+1:=⟨w - 1,by omega⟩
  have hn:=hP.good.le
  have hf:=hP.few
  have e:q++z0 ((ext 0 (m+1) p l).filter (Co n D))=q:=by show q++[]=q;simp
  refine⟨c,by rw[e];exact hc,?_⟩
  rw[e]
  show Iy (BI N) L (Gv (BI N) L w) (Int.ofNat (m+1)) (Int.ofNat p) ⟨D.length,fl,vL D⟩ q.length c (Int.ofNat n) (Int.ofNat (bitsOf l)) (qW n q)=_
  unfold Iy
  rw[CY,Ak,AeA (by omega),BB,show Nat.blt n (p+(m+1))=true from by rw[blt_eq];simp;omega,show nt true=false from rfl,AA]
  unfold Jj
  rw[CY,Ak];rfl
 | succ r ih =>
  intro w p l q c hw hr hP hc hq
  obtain⟨w,rfl⟩:∃ v,w=v+1:=⟨w - 1,by omega⟩
  have hn:=hP.good.le
  have hf:=hP.few
  have hp:p < n:=by omega
  have hb:Gv (BI N) L (w+1) (Int.ofNat (m+1)) (Int.ofNat p) ⟨D.length,fl,vL D⟩ q.length c (Int.ofNat n) (Int.ofNat (bitsOf l)) (qW n q)=Iy (BI N) L (Gv (BI N) L w) (Int.ofNat (m+1)) (Int.ofNat p) ⟨D.length,fl,vL D⟩ q.length c (Int.ofNat n) (Int.ofNat (bitsOf l)) (qW n q):=rfl
  rw[hb]
  unfold Iy
  rw[CY,Ak,AeA (by omega),BB]
  by_cases hs:r+1 < m+1
  ·rw[show Nat.blt n (p+(m+1))=true from by rw[blt_eq];simp;omega,show nt true=false from rfl,AA,OC hs]
   have e:q++z0 (([]:List (List Nat)).filter (Co n D))=q:=by show q++[]=q;simp
   rw[e]
   refine⟨c,hc,?_⟩
   unfold Jj
   rw[CY,Ak];rfl
  ·rw[show Nat.blt n (p+(m+1))=false from by rw[blt_eq];simp;omega,show nt false=true from rfl,Ak]
   have hS:=hP.snoc hp
   obtain⟨N',rfl⟩:∃ v,N=v+4:=⟨N - 4,by omega⟩
   have e85:=gP N' fl hS.good hD
   have go:ext (r+1) (m+1) p l=ext r m (p+1) (l++[p])++ext r (m+1) (p+1) l:=rfl
   rw[go] at hq ⊢
   rw[List.length_append] at hq
   rw[List.filter_append]
   have ez:∀ a b:List (List Nat),z0 (a++b)=z0 a++z0 b:=fun a b=>by unfold z0;rw[List.map_append]
   rw[ez,←List.append_assoc]
   rw[Cx,Ac,vK hP.good hp]
   show ∃ c',_∧oo (BI (N'+4) 10160 [tv n (bitsOf (l++[p])),pT 1,.agg ⟨[Sl.v 1 ⟨D.length,fl,vL D⟩]⟩]) none _=_
   rw[e85,Ac]
   have next : ∀ (q' : List (Nat × List Nat)) (c' : Nat), UD c' q'.length → q'.length + (ext r (m + 1) (p + 1) l).length ≤ 1000000000 → ∃ c'', UD c'' (q' ++ z0 ((ext r (m + 1) (p + 1) l).filter (Co n D))).length ∧
    Jv (BI (N'+4)) L (Gv (BI (N'+4)) L w) (Int.ofNat (m+1)) (Int.ofNat p) false ⟨D.length,fl,vL D⟩ q'.length c' (Int.ofNat n) (Int.ofNat (bitsOf l)) (qW n q')=some (XZ fl D n (q'++z0 ((ext r (m+1) (p+1) l).filter (Co n D))) c''):=by
    intro q' c' hc' hq'
    obtain⟨c'',k1,k2⟩:=ih w (p+1) l q' c' (by omega) (by omega) hP.skip hc' hq'
    refine⟨c'',k1,?_⟩
    unfold Jv
    rw[AA,CY,Ak,DC p (by omega)]
    exact k2
   unfold PN
   simp only[FW,Ac,Dj,EG,BU,RL,Dc]
   cases ha:RP n D (l++[p]) with
   | false =>
    have hno:(ext r m (p+1) (l++[p])).filter (Co n D)=[]:=K6 fun x hx=>by
     obtain⟨g,_,t,rfl⟩:=Nc r m (p+1) (l++[p]) hS (by omega) x hx
     exact UX hS.good (by simp) g ha
    rw[hno,AA,show q++z0 []=q from List.append_nil q]
    exact next q c hc (by omega)
   | true =>
    rw[Ak,UY hc,Ak,Ak,DC p (by omega),Agi (by omega)]
    obtain⟨c1,k1,k2⟩:=ihm r (p+1) (l++[p]) q c hS (by omega) (.inr trivial) hc (by omega)
    have k2' : BI (N' + 4) 10180 [.agg ⟨[.int .i64 (Int.ofNat n), .int .u32 (Int.ofNat (bitsOf (l ++ [p])))]⟩, .int .i64 (Int.ofNat (p + 1)), .int .i64 (Int.ofNat m), .func (.func 16) ⟨[]⟩ ⟨[.pointer (some ⟨1, 0, none⟩)]⟩, .func (.func 19) ⟨[]⟩ ⟨[.pointer (some ⟨1, 0, none⟩), .pointer (some ⟨2, 0, none⟩)]⟩,
     .agg ⟨[Sl.v 1 ⟨D.length,fl,vL D⟩]⟩,.agg ⟨[.slice (some ⟨3,0,some 2⟩) q.length c]⟩,.agg ⟨qW n q⟩]=_:=k2
    rw[k2',Ac]
    have hle:(z0 ((ext r m (p+1) (l++[p])).filter (Co n D))).length≤(ext r m (p+1) (l++[p])).length:=by
     unfold z0;rw[List.length_map];exact List.length_filter_le _ _
    obtain⟨c2,g1,g2⟩:=next (q++z0 ((ext r m (p+1) (l++[p])).filter (Co n D))) c1 k1 (by rw[List.length_append];omega)
    refine⟨c2,g1,?_⟩
    rw[←g2]
    generalize q++z0 ((ext r m (p+1) (l++[p])).filter (Co n D))=q2
    show bb (Nq EP) (bb (Au Ah (qW n q2)) (bb (Au Ah (qW n q2)) _ none) none) none=_
    rw[CY,Ak,Ak];rfl
theorem UZ (k fl:Nat) {n:Nat} {D:List Nat} (hD:D.length=n - 1):∀ m:Nat,Pg (k+m+7) n fl D m:=by
 intro m
 induction m with
 | zero =>
  intro r p l q c hP hr _ hc hq
  rw[K5] at hq ⊢
  obtain⟨c',k1,k2⟩:=vQ k fl hP.good hD hc (by simpa using hq)
  have e:[l].filter (Co n D)=bif Co n D l then [l] else []:=by
   rw[List.filter_cons];cases Co n D l <;> rfl
  rw[e]
  refine⟨c',k1,?_⟩
  rw[bS]
  show Jb (BI (k+6)) L (Int.ofNat n) (Int.ofNat (bitsOf l)) (Int.ofNat p) (0:Int) ⟨D.length,fl,vL D⟩ q.length c (qW n q)=_
  unfold Jb
  rw[CY,Ak,show Bd (0:Int) 0=true from rfl,Ak,UY hc,Ak,Ak]
  have k2':BI (k+6) 10190 [.agg ⟨[.int .i64 (Int.ofNat n),.int .u32 (Int.ofNat (bitsOf l))]⟩,.pointer (some ⟨1,0,none⟩),.pointer (some ⟨2,0,none⟩),.agg ⟨[Sl.v 1 ⟨D.length,fl,vL D⟩]⟩,.agg ⟨[.slice (some ⟨3,0,some 2⟩) q.length c]⟩,.agg ⟨qW n q⟩]=_:=k2
  rw[k2',Ac]
  generalize q++z0 (bif Co n D l then [l] else [])=q2
  show bb (Nq EP) (bb (Au Ah (qW n q2)) (bb (Au Ah (qW n q2)) _ none) none) none=_
  rw[CY,Ak,Ak];rfl
 | succ m ih =>
  intro r p l q c hP hr _ hc hq
  have hn:=hP.good.le
  obtain⟨c',k1,k2⟩:=X0 (k+m+7) m fl hD (by omega) ih r L p l q c (by show r < 1000000;omega) hr hP hc hq
  refine⟨c',k1,?_⟩
  rw[show k+(m+1)+7=k+m+7+1 by omega,bS]
  show Jb (BI (k+m+7)) L (Int.ofNat n) (Int.ofNat (bitsOf l)) (Int.ofNat p) (Int.ofNat (m+1)) ⟨D.length,fl,vL D⟩ q.length c (qW n q)=_
  unfold Jb
  rw[CY,Ak,show Bd (Int.ofNat (m+1)) 0=false from rfl,AA]
  exact k2
end Go.RgP
set_option maxRecDepth 100000
set_option maxHeartbeats 4000000
namespace Go.RgP
open Go Go.Sp Go.RgQM
theorem vR (a b:List (List Nat)):z0 (a++b)=z0 a++z0 b:=by unfold z0;rw[List.map_append]
theorem vS (a:List (List Nat)):(z0 a).length=a.length:=by unfold z0;rw[List.length_map]
theorem gQ {n p r m:Nat} {l:List Nat} (hP:Part n p l m) (hr:p+r=n):(ext r m p l).length≤60000:=by
 have hn:=hP.good.le
 have hf:=hP.few
 rw[SA];exact vJ m r (by omega) (by omega)
def Agk (n:Nat):Nat→List (Nat×List Nat)
 | 0=>[(2,[])]
 | m+1=>z0 (ext (n - 1) m 1 [0])
end Go.RgP
set_option maxRecDepth 100000
set_option maxHeartbeats 4000000
namespace Go.RgP
open Go Go.Sp Go.RgQM
end Go.RgP
set_option maxRecDepth 100000
set_option maxHeartbeats 4000000
namespace Go.RgP
open Go Go.Sp Go.RgQM
structure AhV (n:Nat) (l:List Nat):Prop where
 pos:0 < n
 le:n≤21
 few:l.length≤10
 lt:∀ x∈l,x < n
end Go.RgP
set_option maxRecDepth 100000
set_option maxHeartbeats 4000000
namespace Go.RgP
open Go Go.Sp Go.RgQM
end Go.RgP
set_option maxRecDepth 100000
set_option maxHeartbeats 4000000
namespace Go.RgP
open Go Go.Sp Go.RgQM
end Go.RgP
set_option maxRecDepth 100000
set_option maxHeartbeats 4000000
namespace Go.RgP
open Go Go.Sp Go.RgQM
theorem p23 (k:Nat) (args:List Value):BI (k+1) 6 args=m6 (BI k) L args:=by kernel_rfl
end Go.RgP
set_option maxRecDepth 100000
set_option maxHeartbeats 4000000
namespace Go.RgP
open Go Go.Sp Go.RgQM
end Go.RgP
set_option maxRecDepth 100000
set_option maxHeartbeats 4000000
namespace Go.RgP
open Go Go.Sp Go.RgQM
noncomputable def Xa (n f:Nat) (q:List (Nat×List Nat)) (e:Int):Value:=Agf (Sl.v 2 ⟨q.length,f,qW n q⟩) (IV e)
theorem q37 (k:Nat) (args:List Value):BI (k+1) 4 args=m4 (BI k) L args:=by kernel_rfl
def wZ (r:List Int):Bool:=r.all fun x=>decide (0≤x∧x≤6)
theorem bU (x:Int) (r:List Int):wZ (x::r)=(decide (0≤x∧x≤6) && wZ r):=rfl
theorem AeB (pu:Af) (L n fl:Nat) {Ds:List Int} (hD:Ds.length≤1000):∀ (r:List Int) (w i:Nat) (z:Int),Ds.drop i=r→r.length < w→i≤Ds.length→0≤z→z≤6*(i:Int) →
 Uf pu L w (Int.ofNat n) z ⟨Ds.length,fl,XO Ds⟩ (Int.ofNat Ds.length) (Int.ofNat i) ⟨Ds.length,fl,XO Ds⟩=bif wZ r then Ue pu L (Int.ofNat n) (z+r.sum) ⟨Ds.length,fl,XO Ds⟩ else some (Xa 0 2 [] 1):=by
 intro r
 induction r with
 | nil =>
  intro w i z hd hw hi h0 h1
  obtain⟨w,rfl⟩:∃ v,w=v+1:=⟨w - 1,by omega⟩
  have h1:Ds.length≤i:=List.drop_eq_nil_iff.1 hd
  show UI pu L (Uf pu L w) (Int.ofNat n) z ⟨Ds.length,fl,XO Ds⟩ (Int.ofNat Ds.length) (Int.ofNat i) ⟨Ds.length,fl,XO Ds⟩=_
  unfold UI
  rw[BB,show Nat.blt i Ds.length=false from by rw[blt_eq];simp;omega,AA]
  show _=Ue pu L (Int.ofNat n) (z+0) ⟨Ds.length,fl,XO Ds⟩
  rw[Int.add_zero]
 | cons x r ih =>
  intro w i z hd hw hi h0 h1
  obtain⟨w,rfl⟩:∃ v,w=v+1:=⟨w - 1,by simp at hw;omega⟩
  obtain⟨hd2,hi2,_⟩:=UU hd
  have hr:(x::r).length=r.length+1:=rfl
  have hlt:Nat.blt i Ds.length=true:=by rw[blt_eq];simp;omega
  show UI pu L (Uf pu L w) (Int.ofNat n) z ⟨Ds.length,fl,XO Ds⟩ (Int.ofNat Ds.length) (Int.ofNat i) ⟨Ds.length,fl,XO Ds⟩=_
  unfold UI
  rw[BB,hlt,Ak,Cx,Ac]
  show bb (an (Nat.blt i Ds.length) true) (oo (AL (XO Ds) (i*1)) none _) none=_
  rw[hlt,show an true true=true from rfl,Ak,gF hd,Ac,show ∀ z,Bi .i64 (IV z)=some z from fun _=>rfl,Ac,bU]
  unfold YC
  rw[JY,JY]
  by_cases hx:x < 0
  ·rw[decide_eq_true hx,decide_eq_false (show ¬ (0≤x∧x≤6) by omega)];rfl
  ·rw[decide_eq_false hx,AA]
   by_cases hx2:6 < x
   ·rw[decide_eq_true hx2,decide_eq_false (show ¬ (0≤x∧x≤6) by omega)];rfl
   ·have hz:Aj .i64 (Int.add z x)=z+x:=Oe _ (by show _≤z+x;omega) (by show z+x≤_;omega)
    rw[decide_eq_false hx2,decide_eq_true (show 0≤x∧x≤6 by omega),AA,Bool.true_and,hz,DC i (by omega),ih w (i+1) (z+x) hd2 (by omega) (by omega) (by omega) (by omega),List.sum_cons,Int.add_assoc]
def kk (k:Nat) (S:Int):Bool:=decide ((k:Int)*((k:Int) - 1)=S)
theorem AeC {k:Nat} (hk:k≤10) (S:Int):Bd (Aj .i64 (Int.mul (Int.ofNat k) (Aj .i64 (Int.sub (Int.ofNat k) (1:Int))))) S=kk k S:=by
 have h:k=0∨k=1∨k=2∨k=3∨k=4∨k=5∨k=6∨k=7∨k=8∨k=9∨k=10:=by omega
 rw[Lr]
 unfold kk
 have w1:Aj .i64 (Int.sub (Int.ofNat k) (1:Int))=(k:Int) - 1:=Oe _ (by show _≤(k:Int) - 1;omega) (by show (k:Int) - 1≤_;omega)
 have w2:-100≤(k:Int)*((k:Int) - 1)∧(k:Int)*((k:Int) - 1)≤100:=by rcases h with rfl | rfl | rfl | rfl | rfl | rfl | rfl | rfl | rfl | rfl | rfl <;> decide
 have w3:Aj .i64 (Int.mul (Int.ofNat k) ((k:Int) - 1))=(k:Int)*((k:Int) - 1):=Oe _ (by show _≤(k:Int)*((k:Int) - 1);omega) (by show (k:Int)*((k:Int) - 1)≤_;omega)
 rw[w1,w3]
 by_cases h:(k:Int)*((k:Int) - 1)=S
 ·rw[decide_eq_true h,h];simp
 ·rw[decide_eq_false h];simpa using h
noncomputable def Gn (n:Nat) (D:List Nat) (S:Int):Nat→Nat→List (List Nat)
 | 0,_=>[]
 | j+1,k=>(bif kk k S then (ext n k 0 []).filter (Co n D) else [])++Gn n D S j (k+1)
theorem AeD (pu:Af) (L n c:Nat) (q:List (Nat×List Nat)):Xd pu L q.length c (qW n q)=some (Xa n 0 q 0):=by
 unfold Xd
 exact vN n q _
theorem vT (K fl:Nat) {n B:Nat} {D:List Nat} (S:Int) (h0:0 < n) (hn:n≤21) (hD:D.length=n - 1) (hB:B≤7) (hBn:B≤n+1):∀ (j w k:Nat) (q:List (Nat×List Nat)) (c:Nat),k+j=B→j < w→UD c q.length→q.length≤60000*k →
 ∃ c',UD c' (q++z0 (Gn n D S j k)).length∧Qr (BI (K+14)) L w (Int.ofNat n) S (Int.ofNat B) (Int.ofNat k) ⟨D.length,fl,vL D⟩ q.length c (qW n q)=some (Xa n 0 (q++z0 (Gn n D S j k)) 0):=by
 intro j
 induction j with
 | zero =>
  intro w k q c hk hw hc hq
  obtain⟨w,rfl⟩:∃ v,w=v+1:=⟨w - 1,by omega⟩
  have e:q++z0 (Gn n D S 0 k)=q:=List.append_nil q
  rw[e]
  refine⟨c,hc,?_⟩
  have hb:Qr (BI (K+14)) L (w+1) (Int.ofNat n) S (Int.ofNat B) (Int.ofNat k) ⟨D.length,fl,vL D⟩ q.length c (qW n q)=UH (BI (K+14)) L (Qr (BI (K+14)) L w) (Int.ofNat n) S (Int.ofNat B) (Int.ofNat k) ⟨D.length,fl,vL D⟩ q.length c (qW n q):=rfl
  rw[hb]
  unfold UH
  rw[CY,Ak,BB,show Nat.blt k B=false from by rw[blt_eq];simp;omega,AA,AeD]
 | succ j ih =>
  intro w k q c hk hw hc hq
  obtain⟨w,rfl⟩:∃ v,w=v+1:=⟨w - 1,by omega⟩
  have hb:Qr (BI (K+14)) L (w+1) (Int.ofNat n) S (Int.ofNat B) (Int.ofNat k) ⟨D.length,fl,vL D⟩ q.length c (qW n q)=UH (BI (K+14)) L (Qr (BI (K+14)) L w) (Int.ofNat n) S (Int.ofNat B) (Int.ofNat k) ⟨D.length,fl,vL D⟩ q.length c (qW n q):=rfl
  rw[hb]
  unfold UH
  rw[CY,Ak,BB,show Nat.blt k B=true from by rw[blt_eq];simp;omega,Ak,AeC (by omega)]
  have next : ∀ (q' : List (Nat × List Nat)) (c' : Nat), UD c' q'.length → q'.length ≤ 60000 * (k + 1) → ∃ c'', UD c'' (q' ++ z0 (Gn n D S j (k + 1))).length ∧
   Xe (BI (K+14)) L (Qr (BI (K+14)) L w) (Int.ofNat n) S (Int.ofNat B) (Int.ofNat k) ⟨D.length,fl,vL D⟩ q'.length c' (qW n q')=some (Xa n 0 (q'++z0 (Gn n D S j (k+1))) 0):=by
   intro q' c' hc' hq'
   obtain⟨c'',k1,k2⟩:=ih w (k+1) q' c' (by omega) (by omega) hc' hq'
   refine⟨c'',k1,?_⟩
   unfold Xe
   rw[CY,Ak,DC k (by omega)]
   exact k2
  have go:Gn n D S (j+1) k=(bif kk k S then (ext n k 0 []).filter (Co n D) else [])++Gn n D S j (k+1):=rfl
  rw[go,vR,←List.append_assoc]
  cases hkk:kk k S with
  | false =>
   rw[AA,show q++z0 (bif false then (ext n k 0 []).filter (Co n D) else [])=q from List.append_nil q]
   exact next q c hc (by omega)
  | true =>
   have hP:Part n 0 [] k:=UA h0 hn (by omega)
   have hbig:=gQ hP (r:=n) (by omega)
   obtain⟨c1,k1,k2⟩:=UZ (K+7 - k) fl hD k n 0 [] q c hP (by omega) (.inr trivial) hc (by omega)
   rw[show K+7 - k+k+7=K+14 by omega] at k2
   have hle:(z0 ((ext n k 0 []).filter (Co n D))).length≤60000:=by
    rw[vS];exact Nat.le_trans (List.length_filter_le _ _) hbig
   rw[Ak,UY hc,Ak,Ak]
   have k2' : BI (K + 14) 10180 [.agg ⟨[.int .i64 (Int.ofNat n), .int .u32 (0 : Int)]⟩, .int .i64 (0 : Int), .int .i64 (Int.ofNat k), .func (.func 16) ⟨[]⟩ ⟨[.pointer (some ⟨1, 0, none⟩)]⟩, .func (.func 19) ⟨[]⟩ ⟨[.pointer (some ⟨1, 0, none⟩), .pointer (some ⟨2, 0, none⟩)]⟩,
    .agg ⟨[Sl.v 1 ⟨D.length,fl,vL D⟩]⟩,.agg ⟨[.slice (some ⟨3,0,some 2⟩) q.length c]⟩,.agg ⟨qW n q⟩]=_:=k2
   rw[k2',Ac]
   show ∃ c',UD c' (q++z0 ((ext n k 0 []).filter (Co n D))++z0 (Gn n D S j (k+1))).length∧_=some (Xa n 0 (q++z0 ((ext n k 0 []).filter (Co n D))++z0 (Gn n D S j (k+1))) 0)
   obtain⟨c2,g1,g2⟩:=next (q++z0 ((ext n k 0 []).filter (Co n D))) c1 k1 (by rw[List.length_append];omega)
   refine⟨c2,g1,?_⟩
   rw[←g2]
   generalize q++z0 ((ext n k 0 []).filter (Co n D))=q2
   show bb (Nq EP) (bb (Au Ah (qW n q2)) (bb (Au Ah (qW n q2)) _ none) none) none=_
   rw[CY,Ak,Ak];rfl
theorem SC:∀ (r m p:Nat) (l:List Nat),∀ x∈ext r m p l,∀ y∈x,y∈l∨p≤y
 | r, 0, p, l, x, hx, y, hy => by
  rw[K5] at hx
  rw[List.mem_singleton.1 hx] at hy
  exact .inl hy
 | 0,m+1,p,l,x,hx,_,_=>by cases hx
 | r + 1, m + 1, p, l, x, hx, y, hy => by
  have hx:x∈ext r m (p+1) (l++[p])++ext r (m+1) (p+1) l:=hx
  rcases List.mem_append.1 hx with hx | hx
  ·rcases SC r m (p+1) (l++[p]) x hx y hy with h | h
   ·rcases List.mem_append.1 h with h | h
    ·exact .inl h
    ·rw[List.mem_singleton.1 h];exact .inr (Nat.le_refl _)
   ·exact .inr (by omega)
  ·rcases SC r (m+1) (p+1) l x hx y hy with h | h
   ·exact .inl h
   ·exact .inr (by omega)
theorem U0 {n k:Nat} (D:List Nat) (h0:0 < n) (hn:n≤21) (hk:k≤6):((Agk n k).filter fun p=>Co n D p.2).map (·.2)=(ext n k 0 []).filter (Co n D):=by
 cases k with
 | zero =>
  rw[K5]
  show (([(2,[])]:List (Nat×List Nat)).filter fun p=>Co n D p.2).map (·.2)=[[]].filter (Co n D)
  rw[List.filter_cons,List.filter_cons]
  cases Co n D [] <;> rfl
 | succ k =>
  obtain⟨n,rfl⟩:∃ v,n=v+1:=⟨n - 1,by omega⟩
  have hP:Part (n+1) 0 [] (k+1):=UA h0 hn hk
  have go:ext (n+1) (k+1) 0 []=ext n k 1 [0]++ext n (k+1) 1 []:=rfl
  have hno:(ext n (k+1) 1 []).filter (Co (n+1) D)=[]:=K6 fun x hx=>by
   cases hg:Co (n+1) D x with
   | false=>rfl
   | true =>
    exfalso
    obtain⟨g,hlen,_⟩:=Nc n (k+1) 1 [] hP.skip (by omega) x hx
    unfold Co at hg
    rw[Bool.and_eq_true,decide_eq_true_eq] at hg
    have h0:=min_zero g hg.1 (by intro e;rw[e] at hlen;simp at hlen)
    rcases SC n (k+1) 1 [] x hx 0 h0 with h | h
    ·cases h
    ·omega
  rw[go,List.filter_append,hno,List.append_nil]
  show ((z0 (ext n k 1 [0])).filter fun p=>Co (n+1) D p.2).map (·.2)=_
  unfold z0
  rw[List.filter_map,List.map_map]
  show ((ext n k 1 [0]).filter fun l=>Co (n+1) D l).map (fun l=>l)=_
  rw[List.map_id']
end Go.RgP
set_option maxRecDepth 100000
set_option maxHeartbeats 4000000
namespace Go.RgP
open Go Go.Sp Go.RgQM
def UE (l:List (List Nat)):Prop:=∀ x∈l,x.length < 900000
theorem UE.set {l:List (List Nat)} (h:UE l) (i:Nat) {x:List Nat} (hx:x.length < 900000):UE (l.set i x):=fun y hy=>by
 rcases List.mem_or_eq_of_mem_set hy with h2 | rfl
 ·exact h y h2
 ·exact hx
theorem UE.at {l:List (List Nat)} (h:UE l) {i:Nat} (hi:i < l.length):(l[i]).length < 900000:=h _ (List.getElem_mem hi)
theorem Hw {α β:Type} {f g:α→β}:∀ {l:List α},AP f l=AP g l→∀ x∈l,f x=g x
 | [],_,_,h=>by cases h
 | a :: l, h, x, hx => by
  injection (show f a::AP f l=g a::AP g l from h) with h1 h2
  cases hx with
  | head=>exact h1
  | tail _ hx=>exact Hw h2 x hx
end Go.RgP
set_option maxRecDepth 100000
set_option maxHeartbeats 4000000
namespace Go.RgP
open Go Go.Sp Go.RgQM
theorem PP:∀ (r m p:Nat) (l:List Nat),∀ x∈ext r m p l,∃ t,x=l++t∧t.length=m∧∀ y∈t,p≤y
 | r, 0, p, l, x, hx => by
  rw[K5] at hx
  exact⟨[],by rw[List.mem_singleton.1 hx,List.append_nil],rfl,fun y hy=>by cases hy⟩
 | 0,m+1,p,l,x,hx=>by cases hx
 | r + 1, m + 1, p, l, x, hx => by
  rcases List.mem_append.1 (show x∈ext r m (p+1) (l++[p])++ext r (m+1) (p+1) l from hx) with hx | hx
  ·obtain⟨t,h1,h2,h3⟩:=PP r m (p+1) (l++[p]) x hx
   refine⟨p::t,by rw[h1];simp,by simp[h2],fun y hy=>?_⟩
   rcases List.mem_cons.1 hy with rfl | hy
   ·exact Nat.le_refl _
   ·have:=h3 y hy;omega
  ·obtain⟨t,h1,h2,h3⟩:=PP r (m+1) (p+1) l x hx
   exact⟨t,h1,h2,fun y hy=>by have:=h3 y hy;omega⟩
def VL (l:List (List Nat)):Prop:=l.Pairwise fun a b=>lexB a b=true
theorem VL.filter {l:List (List Nat)} (h:VL l) (p:List Nat→Bool):VL (l.filter p):=List.Pairwise.sublist List.filter_sublist h
noncomputable def UF (n:Nat) (D:List Nat):List (List Nat):=Gn n D (D.map Int.ofNat).sum (min n 6+1) 0
end Go.RgP
set_option maxRecDepth 100000
set_option maxHeartbeats 4000000
namespace Go.RgP
open Go Go.Sp Go.RgQM
theorem gT {n:Nat} {l:List Nat} (h:Good n l) (d:Nat):K3 n l d≤6:=Nat.le_trans List.countP_le_length h.few
theorem X3 {n:Nat} {l:List Nat} (h:Good n l):wZ ((Gm n l).map Int.ofNat)=true:=by
 unfold wZ
 rw[List.all_eq_true]
 intro x hx
 obtain⟨y,hy,rfl⟩:=List.mem_map.1 hx
 unfold Gm at hy
 obtain⟨i,_,rfl⟩:=List.mem_map.1 hy
 have:=gT h (i+1)
 rw[decide_eq_true_eq]
 show 0≤((K3 n l (i+1):Nat):Int)∧((K3 n l (i+1):Nat):Int)≤6
 omega
theorem OP (k:Nat) {n:Nat} {l:List Nat} (h:Good n l):BI (k+15) 4 [IV (Int.ofNat n),nO (Gm n l)]=some (Xa n 0 (z0 (UF n (Gm n l))) 0):=by
 have hn0:=h.pos
 have hn:=h.le
 generalize hDD:Gm n l=D
 have hDl:D.length=n - 1:=by rw[←hDD];exact OB n l
 have hok:wZ (D.map Int.ofNat)=true:=by rw[←hDD];exact X3 h
 have w1:Aj .i64 (Int.sub (Int.ofNat n) (1:Int))=Int.ofNat (n - 1):=by
  have e:Int.sub (Int.ofNat n) (1:Int)=Int.ofNat (n - 1):=by show (n:Int) - 1=((n - 1:Nat):Int);omega
  rw[e];exact Oe _ (by show _≤((n - 1:Nat):Int);omega) (by show ((n - 1:Nat):Int)≤_;omega)
 have u37:=AeB (BI (k+14)) L n 0 (Ds:=D.map Int.ofNat) (by simp;omega) (D.map Int.ofNat) L 0 0 List.drop_zero (by simp;show _ < 1000000;omega) (by omega) (by omega) (by omega)
 have hmin:Aj .i64 (Int.add (bb (AY (Int.ofNat n) (6:Int)) (Int.ofNat n) (6:Int)) (1:Int))=Int.ofNat (min n 6+1):=by
  rw[show (6:Int)=Int.ofNat 6 from rfl,BB,blt_eq]
  by_cases h:n < 6
  ·rw[decide_eq_true h,Ak,DC n (by omega),show min n 6=n by omega]
  ·rw[decide_eq_false h,AA,DC 6 (by omega),show min n 6=6 by omega]
 obtain⟨c',_,r37⟩:=vT k 0 (D.map Int.ofNat).sum hn0 hn hDl (B:=min n 6+1) (by omega) (by omega) (min n 6+1) L 0 [] 0 (by omega) (by show _ < 1000000;omega) ⟨rfl,rfl⟩ (by simp)
 rw[q37]
 show m4_ (BI (k+14)) L (Int.ofNat n) ⟨D.length,0,vL D⟩=_
 unfold m4_
 rw[show AY (Int.ofNat n) 1=false from by rw[show (1:Int)=Int.ofNat 1 from rfl,BB,blt_eq];simp;omega,AA,show AY 21 (Int.ofNat n)=false from by rw[show (21:Int)=Int.ofNat 21 from rfl,BB,blt_eq];simp;omega]
 unfold Zt
 rw[AA,w1]
 show bb (nt (Bd (Int.ofNat D.length) (Int.ofNat (n - 1)))) _ (Uf (BI (k+14)) L L (Int.ofNat n) (0:Int) ⟨D.length,0,vL D⟩ (Int.ofNat D.length) (0:Int) ⟨D.length,0,vL D⟩)=_
 rw[FK,hDl,show Nat.beq (n - 1) (n - 1)=true from Nat.beq_refl _,show nt true=false from rfl,AA]
 rw[←vE,List.length_map,hDl,hok,Int.zero_add] at u37
 refine Eq.trans u37 ?_
 show Ue (BI (k+14)) L (Int.ofNat n) (D.map Int.ofNat).sum ⟨n - 1,0,vL D⟩=_
 unfold Ue
 rw[hmin]
 rw[hDl] at r37
 exact r37
end Go.RgP
set_option maxRecDepth 100000
set_option maxHeartbeats 4000000
namespace Go.RgP
open Go Go.Sp Go.RgQM
noncomputable def bV (n:Nat) (l:List Nat) (p:Nat):Bool:=l.all fun a=>Nat.ble (K3 n (l++[p]) (p - a)) 1
noncomputable def Qs (n:Nat):Nat→Nat→Nat→List Nat→List (List Nat)
 | _,0,_,l=>[l]
 | 0,_+1,_,_=>[]
 | r+1,m+1,p,l=>(bif bV n l p then Qs n r m (p+1) (l++[p]) else [])++Qs n r (m+1) (p+1) l
theorem K7 {n:Nat} {P:List Nat→Bool} (hP:∀ x,P x=true→WW n x=true):∀ (r m p:Nat) (l:List Nat),p+r≤n→(∀ y∈l,y < p)→(ext r m p l).filter P=(Qs n r m p l).filter P
 | 0,0,p,l,_,_=>rfl
 | r+1,0,p,l,_,_=>rfl
 | 0,m+1,p,l,_,_=>rfl
 | r + 1, m + 1, p, l, hr, hl => by
  show (ext r m (p+1) (l++[p])++ext r (m+1) (p+1) l).filter P=((bif bV n l p then Qs n r m (p+1) (l++[p]) else [])++Qs n r (m+1) (p+1) l).filter P
  have hl2:∀ y∈l,y < p+1:=fun y hy=>by have:=hl y hy;omega
  rw[List.filter_append,List.filter_append,K7 hP r (m+1) (p+1) l (by omega) hl2]
  congr 1
  cases hc:bV n l p with
  | true =>
   have hl3:∀ y∈l++[p],y < p+1:=fun y hy=>by
    rcases List.mem_append.1 hy with hy | hy
    ·exact hl2 y hy
    ·rw[List.mem_singleton.1 hy];omega
   exact K7 hP r m (p+1) (l++[p]) (by omega) hl3
  | false =>
   show _=[]
   refine K6 fun x hx=>?_
   obtain⟨t,rfl,_,_⟩:=PP _ _ _ _ x hx
   cases hq:P (l++[p]++t) with
   | false=>rfl
   | true =>
    exfalso
    have hp:=QN.1 (hP _ hq)
    have:bV n l p=true:=by
     unfold bV
     rw[List.all_eq_true]
     intro a ha
     have h1:=hl a ha
     have h2:=hp (p - a) (by omega) (by omega)
     have h3:=UC n (l++[p]) t (p - a)
     exact Nat.ble_eq_true_of_le (by omega)
    rw[this] at hc;cases hc
def Bq (n:Nat):List Nat:=List.replicate (n - 1) 1
theorem X4 {n:Nat} (x:List Nat) (h:Co n (Bq n) x=true):WW n x=true:=by
 unfold Co at h
 rw[Bool.and_eq_true,decide_eq_true_eq,decide_eq_true_eq] at h
 rw[QN]
 intro d h1 h2
 have e:(Gm n x)[d - 1]?=some (K3 n x d):=by rw[QO (by omega),show d - 1+1=d by omega]
 rw[h.2] at e
 unfold Bq at e
 rw[List.getElem?_replicate,if_pos (by omega)] at e
 exact(Option.some.inj e).symm
theorem Jh {n:Nat} {D:List Nat} {S:Int} {k:Nat} (j:Nat) (h:kk k S=false):Gn n D S (j+1) k=Gn n D S j (k+1):=by
 show (bif kk k S then (ext n k 0 []).filter (Co n D) else [])++Gn n D S j (k+1)=_
 rw[h];rfl
theorem gU {n:Nat} {D:List Nat} {S:Int} {k:Nat} (j:Nat) (h:kk k S=true) (h0:Gn n D S j (k+1)=[]):Gn n D S (j+1) k=(ext n k 0 []).filter (Co n D):=by
 show (bif kk k S then (ext n k 0 []).filter (Co n D) else [])++Gn n D S j (k+1)=_
 rw[h,h0,List.append_nil];rfl
theorem Kg {n k:Nat} (h0:0 < n) (hn:n≤21) (hk:k+1≤6):(ext n (k+1) 0 []).filter (Co n (Bq n))=(Qs n (n - 1) k 1 [0]).filter (Co n (Bq n)):=by
 have:=U0 (k:=k+1) (Bq n) h0 hn hk
 rw[←this]
 show ((z0 (ext (n - 1) k 1 [0])).filter fun p=>Co n (Bq n) p.2).map (·.2)=_
 unfold z0
 rw[List.filter_map,List.map_map,←K7 X4 (n - 1) k 1 [0] (by omega) (fun y hy=>by rw[List.mem_singleton.1 hy];omega)]
 show ((ext (n - 1) k 1 [0]).filter fun l=>Co n (Bq n) l).map (fun l=>l)=_
 rw[List.map_id']
end Go.RgP
set_option maxRecDepth 100000
set_option maxHeartbeats 0
namespace Go.RgP
open Go Go.Sp Go.RgQ Go.RgQM
noncomputable section
def mW {β:Type} (args:List Value) (k:Nat→Nat→Option β):Option β:=ll args none fun a r=>ll r (oo (Bt a) none fun l=>ll l none fun v1 l=>ll l none fun v2 l=>ll l (oo (Bi .i64 v1) none fun x=>oo (Bi .u32 v2) none fun y=>oo (EA x) none fun n=>oo (EA y) none fun s=>bb (an (Nat.blt 0 n) (Nat.ble n 60)) (k n s) none) fun _ _=>none) fun _ _=>none
def nP (args:List Value):Option Value:=mW args fun n s=>some (IV (KW n s))
def nQ (args:List Value):Option Value:=mW args fun n s=>some (Sl.v 1 ⟨n - 1,0,vL (Ul n s)⟩)
def nR (args:List Value):Option Value:=mW args fun n s=>some (.bool (WT n s))
def MG:Af:=BI 30
def OQ:Af:=fun g=>bb (Nat.beq g 31) nP (bb (Nat.beq g 22) nQ (bb (Nat.beq g 30) nR (MG g)))
end
theorem OT {β:Type} {args:List Value} {k:Nat→Nat→Option β} {v:β} (h:mW args k=some v):∃ n s,args=[tv n s]∧0 < n∧n≤60∧k n s=some v:=by
 replace h:=Ad h;obtain⟨a,r,rfl,h⟩:=h
 replace h:=AC h;obtain⟨rfl,h⟩:=h
 obtain⟨l,hl,h⟩:=Ab h
 replace h:=Ad h;obtain⟨v1,l1,rfl,h⟩:=h
 replace h:=Ad h;obtain⟨v2,l2,rfl,h⟩:=h
 replace h:=AC h;obtain⟨rfl,h⟩:=h
 obtain⟨x,hx,h⟩:=Ab h
 obtain⟨y,hy,h⟩:=Ab h
 obtain⟨n,hn,h⟩:=Ab h
 obtain⟨s,hs,h⟩:=Ab h
 obtain⟨hc,h⟩:=Ae h
 obtain⟨c1,c2⟩:=Av hc
 refine⟨n,s,?_,Nat.le_of_ble_eq_true c1,Nat.le_of_ble_eq_true c2,h⟩
 rw[BQ hl,Eh hx,Eh hy,AR hn,AR hs];rfl
theorem Agl (args:List Value) (v:Value) (h:nP args=some v):MG 31 args=some v:=by
 obtain⟨n,s,rfl,h1,h2,h⟩:=OT h
 rw[←h];exact Un 26 h1 h2
theorem Agm (args:List Value) (v:Value) (h:nQ args=some v):MG 22 args=some v:=by
 obtain⟨n,s,rfl,h1,h2,h⟩:=OT h
 rw[←h];exact WV 26 h1 h2
theorem Agn (args:List Value) (v:Value) (h:nR args=some v):MG 30 args=some v:=by
 obtain⟨n,s,rfl,h1,h2,h⟩:=OT h
 rw[←h];exact fQ 25 h1 h2
end Go.RgP
