/- Made from wip. -/
import Derived.Test.YtglnihplphhhoaaDoorSpObjx
import Derived.Test.YtglnihplphhhoaaDoorTbGPux
import Derived.KernelRfl

set_option maxRecDepth 100000
namespace Go.TM

def Jw (r:List Int) (p:Int×Int):List Int:=(r.set p.1.toNat (min (r.getD p.1.toNat 0) (r.getD p.2.toNat 0))).set p.2.toNat (max (r.getD p.1.toNat 0) (r.getD p.2.toNat 0))
theorem FK (r:List Int) (p:Int×Int):(Jw r p).length=r.length:=by simp[Jw]
def runs (r:List Int) (C:List (Int×Int)):List Int:=C.foldl Jw r
theorem DT:∀ (C:List (Int×Int)) (r:List Int),(runs r C).length=r.length
 | [],r=>rfl
 | p::C,r=>by show (runs (Jw r p) C).length=_;rw[DT C,FK]
theorem JN (r:List Int) (p:Int×Int) (D:List (Int×Int)):runs r (p::D)=runs (Jw r p) D:=rfl

def qR (n:Nat) (p:Int×Int):Prop:=0≤p.1∧p.1 < p.2∧p.2 < (n:Int)
def Jh (n:Nat) (C:List (Int×Int)):Prop:=∀ p∈C,qR n p

theorem getD_map (f:Int→Int) (r:List Int) (j:Nat) (hj:j < r.length):(r.map f).getD j 0=f (r.getD j 0):=by
 simp[List.getD_eq_getElem?_getD,hj]

def mono (f:Int→Int):Prop:=∀ a b,a≤b→f a≤f b
theorem Pf {f:Int→Int} (h:mono f) (a b:Int):min (f a) (f b)=f (min a b):=by
 rcases Int.le_total a b with c | c
 ·rw[Int.min_eq_left c,Int.min_eq_left (h _ _ c)]
 ·rw[Int.min_eq_right c,Int.min_eq_right (h _ _ c)]
theorem Pg {f:Int→Int} (h:mono f) (a b:Int):max (f a) (f b)=f (max a b):=by
 rcases Int.le_total a b with c | c
 ·rw[Int.max_eq_right c,Int.max_eq_right (h _ _ c)]
 ·rw[Int.max_eq_left c,Int.max_eq_left (h _ _ c)]
theorem QB {f:Int→Int} (h:mono f) {n:Nat} {r:List Int} {p:Int×Int} (hp:qR n p) (hr:r.length=n):Jw (r.map f) p=(Jw r p).map f:=by
 obtain⟨h1,h2,h3⟩:=hp
 unfold Jw
 rw[getD_map f r _ (by omega),getD_map f r _ (by omega),Pf h,Pg h,List.map_set,List.map_set]
theorem IV {f:Int→Int} (h:mono f) {n:Nat}:∀ (C:List (Int×Int)) (r:List Int),Jh n C→r.length=n→runs (r.map f) C=(runs r C).map f
 | [],r,_,_=>rfl
 | p :: C, r, hC, hr => by
  rw[JN,JN,QB h (hC p (by simp)) hr]
  exact IV h C (Jw r p) (fun q hq=>hC q (by simp[hq])) (by rw[FK];exact hr)

def Fp (r:List Int):Prop:=∀ j,1≤j→j < r.length→¬ r.getD j 0 < r.getD (j - 1) 0
theorem Ph {r:List Int} (h:Fp r):∀ (d i:Nat),i+d < r.length→r.getD i 0≤r.getD (i+d) 0
 | 0,i,_=>Int.le_refl _
 | d + 1, i, hi => by
  have h1:=Ph h d i (by omega)
  have h2:=h (i+(d+1)) (by omega) hi
  rw[show i+(d+1) - 1=i+d by omega] at h2
  omega
def plain (n m:Nat):List Int:=(List.range n).map fun lane=>if m.testBit (n - 1 - lane) then 1 else 0
def qU (n:Nat) (C:List (Int×Int)):Prop:=∀ r:List Int,r.length=n→Fp (runs r C)
theorem LP (r:List Int) (A:Nat) (hA:A < r.length):r.set A (r.getD A 0)=r:=by
 have:r.getD A 0=r[A]:=by simp[hA]
 rw[this];simp
end Go.TM
set_option maxRecDepth 100000
namespace Go.TM

def bit (b:List Nat) (lane m:Nat):Bool:=(b.getD (lane*2+m / 64) 0).testBit (m % 64)
def Sc (b:List Nat) (A B k:Nat):List Nat:=(b.set (A*2+k) (Nat.land (b.getD (A*2+k) 0) (b.getD (B*2+k) 0))).set (B*2+k) (Nat.lor (b.getD (A*2+k) 0) (b.getD (B*2+k) 0))
def pass (b:List Nat) (p:Int×Int):List Nat:=Sc (Sc b p.1.toNat p.2.toNat 0) p.1.toNat p.2.toNat 1
end Go.TM
set_option maxRecDepth 100000
namespace Go.TbGM
open Go.Sp Go.TbG Go.TM

theorem qV (n:Nat) (a b c:Int):Bn (n+1) 20 [I a,I b,I c]=some (Value.bool (decide (a≤b) && decide (b≤c))):=by
 show bb (nt (AY b a)) (some (Value.bool (nt (AY c b)))) (some (Value.bool false))=_
 by_cases h1:a≤b <;> by_cases h2:b≤c <;> simp[JY,h1,h2,show (b < a)↔¬ a≤b from by omega,show (c < b)↔¬ b≤c from by omega]
theorem Co {a b:Nat} (h:a < b):AY (Int.ofNat a) (Int.ofNat b)=true:=by simp[JY,h]
theorem BO {a b:Nat} (h:¬ a < b):AY (Int.ofNat a) (Int.ofNat b)=false:=by simp[JY];omega
theorem Ki {x y:Int}:(AY x y=true↔x < y):=by rw[JY,decide_eq_true_iff]
theorem KJ {x y:Int}:(AY x y=false↔¬ x < y):=by rw[JY,decide_eq_false_iff_not]
theorem Sd (a b:Int):bb (AY b a) b a=min a b:=by
 by_cases h:b < a
 ·rw[Ki.2 h,Ak];omega
 ·rw[KJ.2 h,AA];omega
theorem Sg (a b:Int):bb (AY a b) b a=max a b:=by
 by_cases h:a < b
 ·rw[Ki.2 h,Ak];omega
 ·rw[KJ.2 h,AA];omega
theorem gI (x:Int):Bd x x=true:=by simp[Lr]
theorem gK {x y:Int} (h:x≠y):nt (Bd x y)=true:=by simp[Lr,h]
theorem VU (x:Int):nt (Bd x x)=false:=by simp[Lr]
theorem gL {x y:Int} (h:x≠y):Bd x y=false:=by simp[Lr,h]

noncomputable def Wm (p:Prop) (a b:Int):Int:=@ite _ p (Classical.propDecidable p) a b
theorem I8 {p:Prop} {a b:Int} (h:p):Wm p a b=a:=if_pos h
theorem LQ {p:Prop} {a b:Int} (h:¬ p):Wm p a b=b:=if_neg h
noncomputable def I9 (p:Prop):Bool:=@decide p (Classical.propDecidable p)
theorem Fb {p:Prop} (h:p):I9 p=true:=@decide_eq_true p (Classical.propDecidable p) h
theorem FL {p:Prop} (h:¬ p):I9 p=false:=@decide_eq_false p (Classical.propDecidable p) h
theorem BB {p q:Prop} (h:p↔q):I9 p=I9 q:=by rw[propext h]

def pc (C:List (Int×Int)):List Value:=C.flatMap fun p=>[I p.1,I p.2]
def cl (fl:Nat) (C:List (Int×Int)):Sl:=⟨C.length,fl,pc C⟩
@[simp] theorem QC (fl:Nat) (C:List (Int×Int)):(cl fl C).n=C.length:=rfl
@[simp] theorem Pi (fl:Nat) (C:List (Int×Int)):(cl fl C).cs=pc C:=rfl
theorem Gp (C:List (Int×Int)):(pc C).length=C.length*2:=by
 induction C with
 | nil=>rfl
 | cons p C ih=>simp only[pc,List.flatMap_cons,List.length_append,List.length_cons,List.length_nil] at ih ⊢;omega
theorem KS:∀ (C:List (Int×Int)) (i:Nat) (h:i < C.length),(pc C)[i*2]?=some (I C[i].1)∧(pc C)[i*2+1]?=some (I C[i].2)
 | [],i,h=>by simp at h
 | p::C,0,_=>⟨rfl,rfl⟩
 | p :: C, i + 1, h => by
  have ih:=KS C i (by simpa using h)
  have e:pc (p::C)=I p.1::I p.2::pc C:=rfl
  have e2:(i+1)*2=i*2+1+1:=by omega
  rw[e,e2]
  simp only[List.getElem?_cons_succ,List.getElem_cons_succ]
  exact ih
def tb (fl:Nat) (k:Int) (C:List (Int×Int)):Value:=.agg ⟨[I k,Sl.v 2 (cl fl C)]⟩

def VV (k:Int) (p:Int×Int):Prop:=0≤p.1∧p.1 < k∧0≤p.2∧p.2 < k
noncomputable def go (k:Int):List (Int×Int)→Int
 | []=>0
 | p::r=>Wm (VV k p) (Wm (p.1 < p.2) (go k r) 7) 2
noncomputable def Si (k:Int) (C:List (Int×Int)):Int:=Wm (1≤k∧k≤7) (Wm (24 < C.length) 3 (go k C)) 1

theorem rQ (pu:Af) (n fl:Nat) (k:Int) (C:List (Int×Int)) (hC:C.length < 1000):∀ (f i:Nat),C.length - i < f→i≤C.length →
 HY pu n f (cl fl C) (Int.ofNat C.length) (Int.ofNat i) k (cl fl C)=some (I (go k (C.drop i))):=by
 intro f
 induction f with
 | zero=>intro i h;omega
 | succ f ih =>
  intro i h hi
  show LM pu n (HY pu n f) _ _ _ _ _=_
  unfold LM
  by_cases hlt:i < C.length
  ·obtain⟨g1,g2⟩:=KS C i hlt
   have e:C.drop i=C[i]::C.drop (i+1):=List.drop_eq_getElem_cons hlt
   have hb:Nat.ble (i*2+2) (len (pc C))=true:=by rw[ble_eq,AV,Gp];simp;omega
   rw[Co hlt]
   simp only[Ak,Cx,Ac,QC,Pi,blt_eq,hlt,decide_true,CF,Bool.true_and,hb,BZ,g1,g2,BP,Sd,Sg]
   rw[e]
   unfold go LK
   by_cases c:VV k C[i]
   ·have c':=c
    obtain⟨c1,c2,c3,c4⟩:=c'
    rw[KJ.2 (show ¬ min C[i].1 C[i].2 < 0 by omega),Ki.2 (show max C[i].1 C[i].2 < k by omega),I8 c]
    simp only[AA,Km,Bool.not_true,DC i (by omega:i < 1000000)]
    by_cases c5:C[i].1 < C[i].2
    ·rw[Ki.2 c5,I8 c5]
     exact ih (i+1) (by omega) (by omega)
    ·rw[KJ.2 c5,LQ c5];rfl
   ·rw[LQ c]
    by_cases c1:min C[i].1 C[i].2 < 0
    ·rw[Ki.2 c1];rfl
    ·rw[KJ.2 c1,KJ.2 (show ¬ max C[i].1 C[i].2 < k from fun h9=>c ⟨by omega,by omega,by omega,by omega⟩)];rfl
  ·have:i=C.length:=by omega
   subst this
   rw[BO hlt,AA,List.drop_length];rfl
theorem p40 (n fl:Nat) (k:Int) (C:List (Int×Int)):Bn (n+2) 40 [tb fl k C]=some (I (Si k C)):=by
 show oo (Bn (n+1) 20 [I 1,I k,I 7]) none (fun v=>oo (Bf v) none fun b=>bb (nt b) (some (I 1)) (bb (AY 24 (Int.ofNat C.length)) (some (I 3)) (HY (Bn (n+1)) 1000000 1000000 (cl fl C) (Int.ofNat C.length) (Int.ofNat 0) k (cl fl C))))=_
 rw[qV]
 simp only[Ac,BU]
 unfold Si
 by_cases hk:1≤k∧k≤7
 ·have d:(decide ((1:Int)≤k) && decide (k≤7))=true:=by simp;omega
  rw[d,I8 hk]
  simp only[Km,Bool.not_true,AA]
  by_cases h1:24 < C.length
  ·rw[I8 h1,Ki.2 (show (24:Int) < Int.ofNat C.length by show (24:Int) < (C.length:Int);omega)];rfl
  ·rw[LQ h1,KJ.2 (show ¬ (24:Int) < Int.ofNat C.length by show ¬ (24:Int) < (C.length:Int);omega),AA]
   exact rQ (Bn (n+1)) 1000000 fl k C (by omega) 1000000 0 (by omega) (by omega)
 ·have d:(decide ((1:Int)≤k) && decide (k≤7))=false:=by simp;omega
  rw[d,LQ hk];rfl

theorem Sj {N:Nat}:∀ (C:List (Int×Int)),Jh N C→go (Int.ofNat N) C=0
 | [],_=>rfl
 | p :: C, h => by
  obtain⟨h1,h2,h3⟩:=h p (by simp)
  unfold go
  rw[I8 (show VV (Int.ofNat N) p from ⟨h1,Int.lt_trans h2 h3,by omega,h3⟩),I8 h2]
  exact Sj C fun q hq=>h q (by simp[hq])
theorem VW {N:Nat} {C:List (Int×Int)} (h1:1≤N) (h7:N≤7) (hl:C.length≤24) (hC:Jh N C):Si (Int.ofNat N) C=0:=by
 unfold Si
 rw[I8 ⟨by show (1:Int)≤(N:Int);omega,by show (N:Int)≤7;omega⟩,LQ (by omega),Sj C hC]

end Go.TbGM
set_option maxRecDepth 100000
namespace Go.TbGM
open Go.Sp Go.TbG Go.TM

theorem Fh {α:Type} (v:α):∀ (i:Nat) (xs:List α),i < xs.length→BM [v] i xs=xs.set i v
 | 0,x::xs,_=>rfl
 | i + 1, x :: xs, h => by
  show x::BM [v] i xs=x::xs.set i v
  rw[Fh v i xs (by simpa using h)]
 | _,[],h=>by simp at h
theorem FN (l:List Int) (i:Nat) (h:i < l.length):(l.map I)[i]?=some (I (l.getD i 0)):=by rw[Aja l i h];simp[h]
theorem Pj (l:List Int):List.take l.length (l.map I)=l.map I:=List.take_of_length_le (by simp)
theorem Nc {n:Nat} (h:n≤1000):EQ n 8=true:=by
 unfold EQ;rw[ble_eq];simp;omega
theorem Sk {N:Nat} {C:List (Int×Int)} (h:Jh N C) {i:Nat} (hi:i < C.length):∃ A B:Nat,C[i].1=Int.ofNat A∧C[i].2=Int.ofNat B∧A < N∧B < N∧A < B∧C[i].1.toNat=A∧C[i].2.toNat=B:=by
 obtain⟨h1,h2,h3⟩:=h _ (List.getElem_mem hi)
 exact⟨C[i].1.toNat,C[i].2.toNat,(Int.toNat_of_nonneg h1).symm,(Int.toNat_of_nonneg (by omega)).symm,by omega,by omega,by omega,rfl,rfl⟩
theorem Pk (r:List Int):an (Nat.ble (0+r.length*1) (len (r.map I))) (Au Ah (Aq (r.length*1) (Am 0 (r.map I))))=true:=by
 simp only[Bh,kL,ble_eq,AV,List.length_map,Nat.zero_add,Nat.mul_one,Nat.le_refl,decide_true,CF,Bool.true_and,Cg,Bz,List.drop_zero,Pj]
theorem Sm (r:List Int):Aq (r.length*1) (Am 0 (r.map I))=r.map I:=by
 simp only[Nat.mul_one,Cg,Bz,List.drop_zero,Pj]
theorem Pm (r:List Int):Aq (r.length*1) (r.map I)=r.map I:=by
 simp only[Nat.mul_one,Cg,Pj]
theorem Pn (r:List Int):Au Ah (r.map I)=true:=by rw[Bh,kL]
theorem VY (pu:Af) (n c:Nat) (r:List Int):Jj pu n r.length c (r.map I)=some (.tuple ⟨[S 0 r,I 0]⟩):=by
 unfold Jj
 rw[Pn,Pk,Sm,Ak,Ak];rfl
theorem mF (pu:Af) (n fl c N:Nat) (C:List (Int×Int)) (hf:Jh N C) (hC:C.length < 1000):∀ (f i:Nat) (r:List Int),C.length - i < f→i≤C.length→r.length=N →
 LJ pu n f r.length c (cl fl C) (Int.ofNat C.length) (Int.ofNat i) (r.map I)=some (.tuple ⟨[S 0 (runs r (C.drop i)),I 0]⟩):=by
 intro f
 induction f with
 | zero=>intro i r h;omega
 | succ f ih =>
  intro i r h hi hr
  show K9 pu n (LJ pu n f) _ _ _ _ _ _=_
  unfold K9
  rw[Pn,Ak]
  by_cases hlt:i < C.length
  ·obtain⟨g1,g2⟩:=KS C i hlt
   have e:C.drop i=C[i]::C.drop (i+1):=List.drop_eq_getElem_cons hlt
   obtain⟨A,B,hA,hB,a1,b1,hAB,tA,tB⟩:=Sk hf hlt
   have a2:A < r.length:=by omega
   have b2:B < r.length:=by omega
   rw[hA] at g1
   rw[hB] at g2
   have hb:decide (i*2+2≤(pc C).length)=true:=by rw[Gp];simp;omega
   have next:=ih (i+1) (Jw r C[i]) (by omega) (by omega) (by rw[FK];exact hr)
   rw[FK] at next
   have s1:BM ([I (min (r.getD A 0) (r.getD B 0))]:List Value) A (r.map I)=(r.set A (min (r.getD A 0) (r.getD B 0))).map I:=by rw[Fh _ _ _ (by simpa using a2),List.map_set]
   have s2:BM ([I (max (r.getD A 0) (r.getD B 0))]:List Value) B ((r.set A (min (r.getD A 0) (r.getD B 0))).map I)=(Jw r C[i]).map I:=by
    rw[Fh _ _ _ (by simpa using b2),←List.map_set]
    unfold Jw
    rw[tA,tB]
   rw[Co hlt]
   simp only[Ak,Cx,Ac,QC,Pi,blt_eq,hlt,decide_true,CF,Bool.true_and,hb,BZ,g1,g2,BP,a2,b2,Nat.zero_add,Nat.mul_one,FN r A a2,FN r B b2,Sd,Sg,s1,s2,Pn,ble_eq,AV,List.length_map,List.length_set,Nat.succ_le_of_lt a2,Nat.succ_le_of_lt b2,Bool.and_true,DC i (by omega:i < 1000000)]
   rw[next,e];rfl
  ·have:i=C.length:=by omega
   subst this
   rw[BO hlt,AA,List.drop_length,VY];rfl
theorem mG (n fl fl' N:Nat) (C:List (Int×Int)) (r:List Int) (h7:N≤7) (hl:C.length≤24) (hC:Jh N C) (hc:Si (Int.ofNat N) C=0) (hr:r.length=N) :
 Bn (n+3) 23 [tb fl (Int.ofNat N) C,S fl' r]=some (.tuple ⟨[S 0 (runs r C),I 0]⟩):=by
 have e:Bn (n+3) 23 [tb fl (Int.ofNat N) C,S fl' r]=Qv (Bn (n+2)) 1000000 (Int.ofNat N) (cl fl C) (sl fl' r):=by kernel_rfl
 rw[e];unfold Qv
 have e1:=p40 n fl (Int.ofNat N) C
 unfold tb at e1
 rw[hc] at e1
 rw[e1]
 have rm:EQ (0+r.length) 8=true:=by rw[Nat.zero_add];exact Nc (by omega)
 have:=mF (Bn (n+2)) 1000000 fl (2*r.length+bb false 1 0) N C hC (by omega) 1000000 0 r (by omega) (by omega) hr
 rw[List.drop_zero] at this
 have hn:nt (Bd (Int.ofNat r.length) (Int.ofNat N))=false:=by rw[hr];exact VU _
 simp only[Ac,BP,VU,AA,I4,GX,hn,rm,Ak,Pm,Pn]
 exact this

end Go.TbGM
set_option maxRecDepth 100000
namespace Go.TbGM
open Go.Sp Go.TbG Go.TM

def pl (P:List (Nat×Nat)):List Value:=P.flatMap fun p=>[.int .u8 (Int.ofNat p.1),.int .u8 (Int.ofNat p.2)]
def ps (P:List (Nat×Nat)):Sl:=⟨P.length,0,pl P⟩
def byte (P:List (Nat×Nat)):Prop:=∀ p∈P,p.1 < 256∧p.2 < 256
theorem VZ (P:List (Nat×Nat)):(pl P).length=P.length*2:=by
 induction P with
 | nil=>rfl
 | cons p C ih=>simp only[pl,List.flatMap_cons,List.length_append,List.length_cons,List.length_nil] at ih ⊢;omega
theorem Po:∀ (C:List (Nat×Nat)) (i:Nat) (h:i < C.length),(pl C)[i*2]?=some (.int .u8 (Int.ofNat C[i].1))∧(pl C)[i*2+1]?=some (.int .u8 (Int.ofNat C[i].2))
 | [],i,h=>by simp at h
 | p::C,0,_=>⟨rfl,rfl⟩
 | p :: C, i + 1, h => by
  have ih:=Po C i (by simpa using h)
  have e:pl (p::C) = .int .u8 (Int.ofNat p.1) :: .int .u8 (Int.ofNat p.2)::pl C:=rfl
  have e2:(i+1)*2=i*2+1+1:=by omega
  rw[e,e2]
  simp only[List.getElem?_cons_succ,List.getElem_cons_succ]
  exact ih
theorem V3 (C:List (Int×Int)):Au Ah (pc C)=true:=by
 rw[Bh,List.all_eq_true];intro x hx
 simp[pc] at hx
 obtain⟨a,b,_,h | h⟩:=hx <;> subst h <;> rfl
theorem gM (C:List (Int×Int)) (k:Nat) (hk:1≤k) (hb:C.length+k≤1000000):GV 2 16 C.length (2*C.length) k (pc C)=true:=by
 unfold GV
 have h1:EQ (C.length+k) 16=true:=Nat.ble_eq_true_of_le (by omega)
 have h2:Nat.ble (C.length+k) (2*C.length / 2)=false:=by
  rw[ble_eq];exact decide_eq_false (by omega)
 have h3:Nat.ble (0+C.length*2) (len (pc C))=true:=Nat.ble_eq_true_of_le (by rw[AV,Gp];omega)
 have h4:Nat.beq (2*C.length % 2) 1=false:=by rw[Nat.mul_mod_right];rfl
 have h5:Nat.beq (0+C.length*2) (len (pc C))=true:=by rw[AV,Gp,Nat.zero_add];exact Nat.beq_refl _
 rw[h1,h2,h3,h4,h5];rfl
theorem V4 (C D:List (Int×Int)):pc C++pc D=pc (C++D):=by simp[pc]
theorem QD (C:List (Int×Int)) (a b:Int):Br (Am 0 (pc C)) [I a,I b]=pc (C++[(a,b)]):=by
 rw[BH,Bz,List.drop_zero,←V4];rfl

theorem gP (C:List (Int×Int)):Aq (C.length*2) (pc C)=pc C:=by rw[Cg,←Gp,List.take_length]
theorem mH (C:List (Int×Int)):an (Nat.ble (0+C.length*2) (len (pc C))) (Au Ah (pc C))=true:=by
 rw[V3,Nat.ble_eq_true_of_le (by rw[AV,Gp];omega)];rfl
def mk (N:Nat) (C:List (Int×Int)):Value:=tb 0 (Int.ofNat N) C
theorem OD (pu:Af) (n:Nat) (z:Int) (N:Nat) (C:List (Int×Int)):MR pu n z (Int.ofNat N) C.length (2*C.length) (pc C)=some (mk N C):=by
 unfold MR;rw[V3,Ak,Bz,List.drop_zero,gP,mH,Ak];rfl
theorem wN (x:Nat) (h:x < 1000000):Aj .i64 (Int.ofNat x)=Int.ofNat x:=Oe _ (by show _≤(x:Int);omega) (by show (x:Int)≤_;omega)
theorem QE (a b:Nat) (h:a < 1000000) (hb:b≤a):Aj .i64 (Int.sub (Int.ofNat a) (Int.ofNat b))=Int.ofNat (a - b):=by
 have:Int.sub (Int.ofNat a) (Int.ofNat b)=Int.ofNat (a - b):=by show (a:Int) - (b:Int)=((a - b:Nat):Int);omega
 rw[this];exact wN _ (by omega)
theorem Pp (a b:Nat) (h:a+b < 1000000):Aj .i64 (Int.add (Int.ofNat a) (Int.ofNat b))=Int.ofNat (a+b):=wN _ h
theorem Pq (a b:Nat):Int.tmod (Int.ofNat a) (Int.ofNat b)=Int.ofNat (a % b):=rfl
theorem mI {a:Nat} (h:a≠0):nt (Bd (Int.ofNat a) 0)=true:=gK (by show (a:Int)≠0;omega)
theorem gQ (pu:Af) (n M N:Nat) (P:List (Nat×Nat)) (hP:byte P) (h1:1≤N) (h5:N≤5) (z:Int):∀ (f i:Nat) (C:List (Int×Int)),M - i < f→i≤M→i≤P.length→Jh N C→C.length+(M - i)≤1000→M≤1000 →
 ∃ D,Jh N D∧D.length≤C.length+(M - i)∧M8 pu n f (Int.ofNat M) (ps P) (Int.ofNat P.length) (Int.ofNat i) z (Int.ofNat N) C.length (2*C.length) (pc C)=some (mk N D):=by
 intro f
 induction f with
 | zero=>intro i C h;omega
 | succ f ih =>
  intro i C h hi hiP hC hlen hM
  have fin:∀ x y (k:Int),MU pu n (M8 pu n f) (Int.ofNat M) (ps P) (Int.ofNat P.length) k true z (Int.ofNat N) C.length (2*C.length) x y (pc C)=some (mk N C):=by
   intro x y k
   unfold MU
   rw[V3,Ak,Ak,OD]
  show ∃ D,Jh N D∧D.length≤C.length+(M - i)∧O4 pu n (M8 pu n f) _ _ _ _ _ _ _ _ _=_
  unfold O4
  rw[V3,Ak]
  by_cases hlt:i < P.length
  ·obtain⟨g1,g2⟩:=Po P i hlt
   obtain⟨hx,hy⟩:=hP _ (List.getElem_mem hlt)
   have hb:decide (i*2+2≤(pl P).length)=true:=by rw[VZ];simp;omega
   rw[Co hlt]
   simp only[Ak,Cx,Ac,ps,blt_eq,hlt,decide_true,CF,Bool.true_and,ble_eq,AV,hb,BZ,g1,g2,Aik]
   by_cases hiM:i < M
   ·rw[Co hiM]
    simp only[Km,Bool.not_true,AA]
    by_cases h2:N < 2
    ·rw[show AY (Int.ofNat N) 2=true from Co h2]
     exact⟨C,hC,by omega,fin _ _ _⟩
    ·rw[show AY (Int.ofNat N) 2=false from BO h2]
     have e1:Aj .i64 (Int.sub (Int.ofNat N) 1)=Int.ofNat (N - 1):=QE N 1 (by omega) (by omega)
     have ha:P[i].1 % (N - 1) < N - 1:=Nat.mod_lt _ (by omega)
     have e2:Aj .i64 (Int.sub (Int.ofNat (N - 1)) (Int.ofNat (P[i].1 % (N - 1))))=Int.ofNat (N - 1 - P[i].1 % (N - 1)):=QE _ _ (by omega) (by omega)
     have hd:P[i].2 % (N - 1 - P[i].1 % (N - 1)) < N - 1 - P[i].1 % (N - 1):=Nat.mod_lt _ (by omega)
     have e3:Aj .i64 (Int.add (Int.ofNat (P[i].1 % (N - 1))) 1)=Int.ofNat (P[i].1 % (N - 1)+1):=DC _ (by omega)
     have e4:Aj .i64 (Int.add (Int.ofNat (P[i].1 % (N - 1)+1)) (Int.ofNat (P[i].2 % (N - 1 - P[i].1 % (N - 1)))))=Int.ofNat (P[i].1 % (N - 1)+1+P[i].2 % (N - 1 - P[i].1 % (N - 1))):=Pp _ _ (by omega)
     unfold MU
     rw[wN P[i].1 (by omega),wN P[i].2 (by omega),e1,Pq,e2,Pq,e3,e4,QD,V3,V3,gM C 1 (by omega) (by omega),mI (show N - 1≠0 by omega),mI (show N - 1 - P[i].1 % (N - 1)≠0 by omega),DC i (by omega)]
     simp only[Ak,AA]
     obtain ⟨D, d1, d2, d3⟩ := ih (i + 1) (C ++ [(Int.ofNat (P[i].1 % (N - 1)), Int.ofNat (P[i].1 % (N - 1) + 1 + P[i].2 % (N - 1 - P[i].1 % (N - 1))))]) (by omega) (by omega) (by omega)
      (by
        intro p hp
        rcases List.mem_append.1 hp with hp | hp
        ·exact hC p hp
        ·simp only[List.mem_singleton] at hp
         subst hp
         refine⟨?_,?_,?_⟩
         ·show (0:Int)≤((P[i].1 % (N - 1):Nat):Int);omega
         ·show ((P[i].1 % (N - 1):Nat):Int) < ((P[i].1 % (N - 1)+1+P[i].2 % (N - 1 - P[i].1 % (N - 1)):Nat):Int);omega
         ·show ((P[i].1 % (N - 1)+1+P[i].2 % (N - 1 - P[i].1 % (N - 1)):Nat):Int) < (N:Int);omega)
      (by simp;omega) hM
     refine⟨D,d1,?_,?_⟩
     ·simp at d2;omega
     ·rw[List.length_append] at d3
      exact d3
   ·rw[BO hiM]
    simp only[Km,Bool.not_false,Ak]
    exact⟨C,hC,by omega,fin _ _ _⟩
  ·have:i=P.length:=by omega
   subst this
   rw[BO hlt,AA,OD]
   exact⟨C,hC,by omega,rfl⟩

def Gw:Nat→List (Int×Int)
 | 2=>[(0,1)]
 | 3=>[(0,1),(1,2),(0,1)]
 | 4=>[(0,1),(1,2),(2,3),(0,1),(1,2),(0,1)]
 | 5=>[(0,1),(1,2),(2,3),(3,4),(0,1),(1,2),(2,3),(0,1),(1,2),(0,1)]
 | _=>[]
theorem QF:∀ N,1≤N→N≤5→Jh N (Gw N)∧(Gw N).length≤10
 | 1,_,_=>⟨by show ∀ p∈Gw 1,0≤p.1∧p.1 < p.2∧p.2 < ((1:Nat):Int);decide,by decide⟩
 | 2,_,_=>⟨by show ∀ p∈Gw 2,0≤p.1∧p.1 < p.2∧p.2 < ((2:Nat):Int);decide,by decide⟩
 | 3,_,_=>⟨by show ∀ p∈Gw 3,0≤p.1∧p.1 < p.2∧p.2 < ((3:Nat):Int);decide,by decide⟩
 | 4,_,_=>⟨by show ∀ p∈Gw 4,0≤p.1∧p.1 < p.2∧p.2 < ((4:Nat):Int);decide,by decide⟩
 | 5,_,_=>⟨by show ∀ p∈Gw 5,0≤p.1∧p.1 < p.2∧p.2 < ((5:Nat):Int);decide,by decide⟩
 | N+6,_,h=>by omega
theorem gT (pu:Af) (z z2:Int) (s:Sl) (b:Bool):∀ N,1≤N→N≤5→K5 pu 1000000 1000000 z (Int.ofNat N) z2 s b 0 (Int.ofNat N) 0 0 []=K4 pu 1000000 z z2 s b 0 (Int.ofNat N) (Gw N).length (2*(Gw N).length) (pc (Gw N))
 | 1,_,_=>by kernel_rfl
 | 2,_,_=>by kernel_rfl
 | 3,_,_=>by kernel_rfl
 | 4,_,_=>by kernel_rfl
 | 5,_,_=>by kernel_rfl
 | N+6,_,h=>by omega
theorem gU (n L M:Nat) (P:List (Nat×Nat)) (hL:L < 256) (hP:byte P) (b:Bool) (hM:M≤10) :
 ∃ D,Jh (1+L % 5) D∧D.length≤(if b then 10 else 0)+M∧Bn (n+1) 5 [.agg ⟨[.int .u8 (Int.ofNat L),Sl.v 2 (ps P),.bool b]⟩,I (Int.ofNat M)]=some (mk (1+L % 5) D):=by
 have e:Bn (n+1) 5 [.agg ⟨[.int .u8 (Int.ofNat L),Sl.v 2 (ps P),.bool b]⟩,I (Int.ofNat M)]=iC (Bn n) 1000000 (Int.ofNat L) (ps P) b (Int.ofNat M):=by kernel_rfl
 rw[e];unfold iC
 have eN:Aj .i64 (Int.add 1 (Int.tmod (Aj .i64 (Int.ofNat L)) 5))=Int.ofNat (1+L % 5):=by
  rw[wN L (by omega),show Int.tmod (Int.ofNat L) 5=Int.ofNat (L % 5) from rfl]
  exact Pp 1 (L % 5) (by omega)
 rw[eN]
 have run:∀ C,Jh (1+L % 5) C→C.length≤10→∃ D,Jh (1+L % 5) D∧D.length≤C.length+M∧K4 (Bn n) 1000000 (Int.ofNat M) (Int.ofNat L) (ps P) b 0 (Int.ofNat (1+L % 5)) C.length (2*C.length) (pc C)=some (mk (1+L % 5) D):=by
  intro C hC hl
  unfold K4
  rw[V3,Ak]
  exact gQ (Bn n) 1000000 M (1+L % 5) P hP (by omega) (by omega) 0 1000000 0 C (by omega) (by omega) (by omega) hC (by omega) (by omega)
 cases b with
 | false =>
  obtain⟨D,d1,d2,d3⟩:=run [] (by intro p hp;cases hp) (by simp)
  exact⟨D,d1,by simpa using d2,d3⟩
 | true =>
  rw[Ak,gT _ _ _ _ _ _ (by omega) (by omega)]
  obtain⟨f1,f2⟩:=QF (1+L % 5) (by omega) (by omega)
  obtain⟨D,d1,d2,d3⟩:=run _ f1 f2
  exact⟨D,d1,by simp;omega,d3⟩
end Go.TbGM
set_option maxRecDepth 100000
namespace Go.TM
def Eb (N:Nat):Nat→List Int→List (List Int)
 | 0,r=>[r]
 | d+1,r=>(List.range N).flatMap fun i=>if Int.ofNat i∈r then [] else Eb N d (r++[Int.ofNat i])
theorem LU (N:Nat):∀ (d:Nat) (r x:List Int),x∈Eb N d r→x.length=r.length+d
 | 0,r,x,h=>by simp[Eb] at h;rw[h];rfl
 | d + 1, r, x, h => by
  simp only[Eb,List.mem_flatMap] at h
  obtain⟨i,_,h⟩:=h
  by_cases c:Int.ofNat i∈r
  ·rw[if_pos c] at h;cases h
  ·rw[if_neg c] at h
   have:=LU N d _ x h
   simp at this;omega
theorem LW (N:Nat):∀ (d:Nat) (r s:List Int),s.length=d→(∀ e∈s,0≤e∧e < (N:Int))→(r++s).Nodup→r++s∈Eb N d r
 | 0, r, s, h, _, _ => by
  have:s=[]:=List.eq_nil_of_length_eq_zero h
  subst this;simp[Eb]
 | d + 1, r, e :: s, h, hs, hn => by
  obtain⟨h1,h2⟩:=hs e (by simp)
  have he:e=Int.ofNat e.toNat:=(Int.toNat_of_nonneg h1).symm
  have hm:Int.ofNat e.toNat ∉ r:=by
   rw[←he]
   intro hr
   exact(List.nodup_append.1 hn).2.2 e hr e (by simp) rfl
  simp only[Eb,List.mem_flatMap]
  refine⟨e.toNat,List.mem_range.2 (by omega),?_⟩
  rw[if_neg hm,←he]
  have e2:r++e::s=(r++[e])++s:=by simp
  rw[e2]
  exact LW N d (r++[e]) s (by simpa using h) (fun x hx=>hs x (by simp[hx])) (by rw[←e2];exact hn)

def pr:Nat→Nat→List Int→List Int
 | _,_,[]=>[]
 | a,b,x::l=>if x=0 then (a:Int)::pr (a+1) b l else (b:Int)::pr a (b+1) l
def zeros:List Int→Nat
 | []=>0
 | x::l=>if x=0 then zeros l+1 else zeros l
theorem Gt:∀ l:List Int,zeros l≤l.length
 | []=>Nat.le_refl _
 | x :: l => by
  have:=Gt l
  simp only[zeros,List.length_cons]
  split <;> omega
theorem KT:∀ (l:List Int) (a b:Nat),(pr a b l).length=l.length
 | [],a,b=>rfl
 | x :: l, a, b => by
  simp only[pr]
  split <;> simp[KT l]
theorem Gq:∀ (l:List Int) (a b:Nat) (e:Int),e∈pr a b l→((a:Int)≤e∧e < (a:Int)+zeros l)∨((b:Int)≤e∧e < (b:Int)+(l.length - zeros l:Nat))
 | [],a,b,e,h=>by simp[pr] at h
 | x :: l, a, b, e, h => by
  have hz:=Gt l
  simp only[pr] at h
  simp only[zeros,List.length_cons]
  split at h
  ·rename_i hx
   rw[if_pos hx]
   rw[List.mem_cons] at h
   rcases h with rfl | h
   ·left;omega
   ·rcases Gq l (a+1) b e h with h1 | h1
    ·left;omega
    ·right;omega
  ·rename_i hx
   rw[if_neg hx]
   rw[List.mem_cons] at h
   rcases h with rfl | h
   ·right;omega
   ·rcases Gq l a (b+1) e h with h1 | h1
    ·left;omega
    ·right;omega
theorem Jb:∀ (l:List Int) (a b:Nat),a+zeros l≤b→(pr a b l).Nodup
 | [],a,b,_=>by simp[pr]
 | x :: l, a, b, h => by
  simp only[zeros] at h
  simp only[pr]
  split
  ·rename_i hx
   rw[if_pos hx] at h
   rw[List.nodup_cons]
   refine⟨fun hm=>?_,Jb l (a+1) b (by omega)⟩
   rcases Gq l (a+1) b _ hm with h1 | h1 <;> omega
  ·rename_i hx
   rw[if_neg hx] at h
   rw[List.nodup_cons]
   refine⟨fun hm=>?_,Jb l a (b+1) (by omega)⟩
   rcases Gq l a (b+1) _ hm with h1 | h1 <;> omega
theorem Nf : ∀ (l : List Int) (a b Z : Nat), (∀ x ∈ l, x = 0 ∨ x = 1) → a + zeros l ≤ Z → Z ≤ b → (pr a b l).map (fun x => if (Z : Int) ≤ x then 1 else 0) = l
 | [],a,b,Z,_,_,_=>rfl
 | x :: l, a, b, Z, hl, h1, h2 => by
  simp only[zeros] at h1
  simp only[pr]
  split
  ·rename_i hx
   rw[if_pos hx] at h1
   rw[List.map_cons,Nf l (a+1) b Z (fun y hy=>hl y (by simp[hy])) (by omega) h2,if_neg (by omega),hx]
  ·rename_i hx
   rw[if_neg hx] at h1
   have hx1:x=1:=(hl x (by simp)).resolve_left hx
   rw[List.map_cons,Nf l a (b+1) Z (fun y hy=>hl y (by simp[hy])) h1 (by omega),if_pos (by omega),hx1]
theorem QG {f:Int→Int} (hf:mono f) {r:List Int} (h:Fp r):Fp (r.map f):=by
 intro j h1 h2 h3
 rw[List.length_map] at h2
 rw[getD_map f r j h2,getD_map f r (j - 1) (by omega)] at h3
 have:=hf (r.getD (j - 1) 0) (r.getD j 0) (by have:=h j h1 h2;omega)
 omega
def Ps (k:Nat) (r:List Int):Prop:=Fp (r.take k)∧Fp (r.drop k)
def two (N k a c:Nat):List Int:=List.replicate (k - a) 0++List.replicate a 1++List.replicate (N - k - c) 0++List.replicate c 1
theorem LX {x:Int} {l:List Int} (h:Fp (x::l)):Fp l:=fun j h1 h2 h3=>by
 refine h (j+1) (by omega) (by rw[List.length_cons];omega) ?_
 obtain⟨i,rfl⟩:∃ i,j=i+1:=⟨j - 1,by omega⟩
 simpa using h3
theorem LY {x:Int} {l:List Int} (h:Fp (x::l)):∀ z∈l,x≤z:=fun z hz=>by
 obtain⟨i,hi,rfl⟩:=List.getElem_of_mem hz
 have:=Ph h (i+1) 0 (by rw[List.length_cons];omega)
 simpa [List.getD_eq_getElem?_getD,hi] using this
theorem Jc {x:Int} {l:List Int} (h1:∀ z∈l,x≤z) (h2:Fp l):Fp (x::l):=fun j h3 h4 h5=>by
 obtain⟨i,rfl⟩:∃ i,j=i+1:=⟨j - 1,by omega⟩
 rw[List.length_cons] at h4
 have hi:i < l.length:=by omega
 cases i with
 | zero =>
  have:=h1 l[0] (List.getElem_mem hi)
  simp[List.getD_eq_getElem?_getD,hi] at h5;omega
 | succ i =>
  refine h2 (i+1) (by omega) hi ?_
  simpa using h5
theorem KU (θ : Int) : ∀ {l : List Int}, Fp l → ∃ y, y ≤ l.length ∧ (l.map fun x => if θ ≤ x then (1 : Int) else 0) = List.replicate (l.length - y) 0 ++ List.replicate y 1
 | [],_=>⟨0,Nat.le_refl _,rfl⟩
 | x :: l, h => by
  obtain⟨y,h1,h2⟩:=KU θ (LX h)
  by_cases hx:θ≤x
  ·refine⟨l.length+1,by simp,?_⟩
   have:((x::l).map fun x=>if θ≤x then (1:Int) else 0)=List.replicate (l.length+1) 1:=by
    refine List.eq_replicate_iff.2 ⟨by simp,fun b hb=>?_⟩
    obtain⟨z,hz,rfl⟩:=List.mem_map.1 hb
    have:θ≤z:=by
     rcases List.mem_cons.1 hz with rfl | hz
     ·exact hx
     ·exact Int.le_trans hx (LY h z hz)
    rw[if_pos this]
   rw[this];simp
  ·refine⟨y,by simp;omega,?_⟩
   rw[List.map_cons,h2,if_neg hx,List.length_cons,show l.length+1 - y=(l.length - y)+1 from by omega,List.replicate_succ];rfl
theorem Jd (θ:Int):mono fun x=>if θ≤x then (1:Int) else 0:=by
 intro a b hab
 by_cases c1:θ≤a
 ·simp only[if_pos c1,if_pos (Int.le_trans c1 hab)];exact Int.le_refl _
 ·simp only[if_neg c1];split <;> omega
theorem KV:∀ (l m:List Int) (a b:Nat),pr a b (l++m)=pr a b l++pr (a+zeros l) (b+(l.length - zeros l)) m
 | [],m,a,b=>by simp[pr,zeros]
 | x :: l, m, a, b => by
  have hz:=Gt l
  by_cases hx:x=0
  ·simp only[List.cons_append,pr,zeros,if_pos hx,KV l m]
   simp only[List.length_cons]
   rw[show a+1+zeros l=a+(zeros l+1) from by omega,show l.length+1 - (zeros l+1)=l.length - zeros l from by omega]
  ·simp only[List.cons_append,pr,zeros,if_neg hx,KV l m]
   simp only[List.length_cons]
   rw[show b+1+(l.length - zeros l)=b+(l.length+1 - zeros l) from by omega]
theorem CY:∀ l m:List Int,zeros (l++m)=zeros l+zeros m
 | [],m=>by simp[zeros]
 | x :: l, m => by
  by_cases hx:x=0
  ·simp only[List.cons_append,zeros,if_pos hx,CY l m];omega
  ·simp only[List.cons_append,zeros,if_neg hx,CY l m]
theorem FX (x:Nat):zeros (List.replicate x 0)=x:=by
 induction x with
 | zero=>rfl
 | succ x ih=>rw[List.replicate_succ];show (if (0:Int)=0 then zeros (List.replicate x 0)+1 else _)=_;rw[if_pos rfl,ih]
theorem Gu (x:Nat):zeros (List.replicate x 1)=0:=by
 induction x with
 | zero=>rfl
 | succ x ih=>rw[List.replicate_succ];show (if (1:Int)=0 then _ else zeros (List.replicate x 1))=_;rw[if_neg (by decide),ih]
theorem Sn:∀ (x a b:Nat),∀ z∈pr a b (List.replicate x 0),(a:Int)≤z∧z < (a:Int)+x:=fun x a b z hz=>by
 rcases Gq _ a b z hz with h | h
 ·rw[FX] at h;exact h
 ·rw[FX,List.length_replicate] at h;omega
theorem Sq:∀ (x a b:Nat),∀ z∈pr a b (List.replicate x 1),(b:Int)≤z:=fun x a b z hz=>by
 rcases Gq _ a b z hz with h | h
 ·rw[Gu] at h;omega
 ·exact h.1
theorem Pt:∀ (x a b:Nat),Fp (pr a b (List.replicate x 0))
 | 0,_,_=>fun j _ h2=>by simp[pr] at h2
 | x + 1, a, b => by
  rw[List.replicate_succ]
  show Fp (if (0:Int)=0 then (a:Int)::pr (a+1) b (List.replicate x 0) else _)
  rw[if_pos rfl]
  exact Jc (fun z hz=>by have:=(Sn x (a+1) b z hz).1;omega) (Pt x (a+1) b)
theorem PI:∀ (x a b:Nat),Fp (pr a b (List.replicate x 1))
 | 0,_,_=>fun j _ h2=>by simp[pr] at h2
 | x + 1, a, b => by
  rw[List.replicate_succ]
  show Fp (if (1:Int)=0 then _ else (b:Int)::pr a (b+1) (List.replicate x 1))
  rw[if_neg (by decide)]
  exact Jc (fun z hz=>by have:=Sq x a (b+1) z hz;omega) (PI x a (b+1))
theorem OE:∀ {l m:List Int},Fp l→Fp m→(∀ x∈l,∀ z∈m,x≤z)→Fp (l++m)
 | [],_,_,h,_=>h
 | x :: l, m, h1, h2, h3 => by
  rw[List.cons_append]
  refine Jc (fun z hz=>?_) (OE (LX h1) h2 fun y hy z hz=>h3 y (by simp[hy]) z hz)
  rcases List.mem_append.1 hz with hz | hz
  ·exact LY h1 z hz
  ·exact h3 x (by simp) z hz
theorem LZ (x y a b:Nat) (h:a+x≤b):Fp (pr a b (List.replicate x 0++List.replicate y 1)):=by
 rw[KV]
 refine OE (Pt x a b) (PI y _ _) fun u hu v hv=>?_
 have h1:=Sn x a b u hu
 have h2:=Sq y _ _ v hv
 omega
theorem KW {N k a c:Nat} (hk:k≤N) (ha:a≤k) (hc:c≤N - k):(two N k a c).length=N:=by
 unfold two;simp;omega
theorem V5 (N k a c:Nat):∀ x∈two N k a c,x=0∨x=1:=fun x hx=>by
 unfold two at hx
 simp only[List.mem_append,List.mem_replicate] at hx
 rcases hx with((h | h) | h) | h
 ·exact .inl h.2
 ·exact .inr h.2
 ·exact .inl h.2
 ·exact .inr h.2
theorem V6 {N k:Nat} {C:List (Int×Int)} (hC:Jh N C) (hk:k≤N):(∀ p∈Eb N N [],Ps k p→Fp (runs p C))↔∀ a,a≤k→∀ c,c≤N - k→Fp (runs (two N k a c) C):=by
 constructor
 ·intro h a ha c hc
  have hl:=KW hk ha hc
  have h01:=V5 N k a c
  have hm:Ps k (pr 0 (zeros (two N k a c)) (two N k a c)):=by
   have e:two N k a c=(List.replicate (k - a) 0++List.replicate a 1)++(List.replicate (N - k - c) 0++List.replicate c 1):=by unfold two;simp
   have hz:zeros (two N k a c)=(k - a)+(N - k - c):=by rw[e,CY,CY,CY,FX,Gu,FX,Gu];omega
   rw[hz,e,KV]
   have hzp:zeros (List.replicate (k - a) (0:Int)++List.replicate a 1)=k - a:=by rw[CY,FX,Gu];omega
   have hlp:(pr 0 (k - a+(N - k - c)) (List.replicate (k - a) (0:Int)++List.replicate a 1)).length=k:=by rw[KT];simp;omega
   constructor
   ·rw[List.take_append_of_le_length (by omega),List.take_of_length_le (by omega)]
    exact LZ _ _ _ _ (by omega)
   ·rw[List.drop_append_of_le_length (by omega),List.drop_of_length_le (by omega),List.nil_append]
    exact LZ _ _ _ _ (by rw[hzp];omega)
  generalize two N k a c=l at hl h01 hm
  have hz:=Gt l
  have hp:pr 0 (zeros l) l∈Eb N N []:=by
   have:=LW N N [] (pr 0 (zeros l) l) (by rw[KT];exact hl) (fun e he=>by rcases Gq l 0 (zeros l) e he with h1 | h1 <;> omega) (by rw[List.nil_append];exact Jb l 0 (zeros l) (by omega))
   rwa [List.nil_append] at this
  have hs:=h _ hp hm
  have hm:=IV (Jd (zeros l:Int)) C (pr 0 (zeros l) l) hC (by rw[KT];exact hl)
  rw[Nf l 0 (zeros l) (zeros l) h01 (by omega) (Nat.le_refl _)] at hm
  rw[hm]
  exact QG (Jd _) hs
 ·intro h p hp hm j h1 h2 h3
  have hpl:p.length=N:=by have:=LU N N [] p hp;simpa using this
  rw[DT,hpl] at h2
  obtain⟨a,ha,ea⟩:=KU ((runs p C).getD (j - 1) 0) hm.1
  obtain⟨c,hc,ec⟩:=KU ((runs p C).getD (j - 1) 0) hm.2
  have hlt:(p.take k).length=k:=by rw[List.length_take,hpl];omega
  have hld:(p.drop k).length=N - k:=by rw[List.length_drop,hpl]
  rw[hlt] at ha ea
  rw[hld] at hc ec
  have e:(p.map fun x=>if (runs p C).getD (j - 1) 0≤x then (1:Int) else 0)=two N k a c:=by
   have:p=p.take k++p.drop k:=(List.take_append_drop k p).symm
   rw[this,List.map_append,←this,ea,ec];unfold two;simp
  have hs:=h a ha c hc
  rw[←e,IV (Jd _) C p hC hpl] at hs
  refine hs j h1 (by rw[List.length_map,DT,hpl];exact h2) ?_
  rw[getD_map _ _ _ (by rw[DT,hpl];exact h2),getD_map _ _ _ (by rw[DT,hpl];omega),if_pos (Int.le_refl _),if_neg (by omega)]
  omega
end Go.TM
set_option maxRecDepth 100000
set_option maxHeartbeats 4000000
namespace Go.TbGM
open Go Go.Sp Go.TbG Go.TM
theorem rR (n:Nat) (x y:Int):Bn (n+2) 39 [I x,I y]=some (.bool (AY x y)):=by
 have e:Bn (n+2) 39 [I x,I y]=Qw (Bn (n+1)) 1000000 x y:=by kernel_rfl
 have e2:∀ z:Int,Bn (n+1) 53 [I z]=some (.bool false):=fun z=>by
  have e:Bn (n+1) 53 [I z]=Qz (Bn n) 1000000 z:=by kernel_rfl
  rw[e];unfold Qz;rw[VU]
 rw[e];unfold Qw
 simp only[e2,Ac,BU,AA]
 rfl
theorem Sr (i:Nat) (h1:1≤i) (h:i < 1000000):Aj .i64 (Int.sub (Int.ofNat i) 1)=Int.ofNat (i - 1):=by
 show Aj .i64 (Int.ofNat i - 1)=_
 rw[Oe _ (by simp;omega) (by simp;omega)];simp;omega
def gV (r:List Int) (i:Nat):Prop:=∀ j,1≤j→j≤i→¬ r.getD j 0 < r.getD (j - 1) 0
theorem qW (n M fl:Nat) (r:List Int) (hr:r.length < 1000):∀ (i w:Nat),i < w→i < r.length→Hy (Bn (n+2)) M w (sl fl r) (Int.ofNat i)=some (Value.bool (I9 (gV r i)))
 | _,0,h,_=>by omega
 | 0, w + 1, _, hi => by
  show Gs (Bn (n+2)) M (Hy (Bn (n+2)) M w) _ _=_
  unfold Gs
  rw[show AY (0:Int) (Int.ofNat 0)=false from rfl,AA,Fb (show gV r 0 from fun j h1 h2=>by omega)];rfl
 | i + 1, w + 1, hw, hi => by
  have ih:=qW n M fl r hr i w (by omega) (by omega)
  have hi1:i < r.length:=by omega
  show Gs (Bn (n+2)) M (Hy (Bn (n+2)) M w) _ _=_
  unfold Gs
  rw[show AY (0:Int) (Int.ofNat (i+1))=true from by rw[Ki];show (0:Int) < ((i+1:Nat):Int);omega]
  simp only[Ak,Cx,Ac,I4,GX,blt_eq,hi,hi1,decide_true,CF,Bool.true_and,BZ,Nat.mul_one,FN r (i+1) hi,FN r i hi1,BP,Sr (i+1) (by omega) (by omega),Nat.add_sub_cancel,rR,BU]
  by_cases c:r.getD (i+1) 0 < r.getD i 0
  ·rw[Ki.2 c,Ak,FL (fun h9=>h9 (i+1) (by omega) (Nat.le_refl _) c)]
  ·rw[KJ.2 c,AA,ih]
   congr 2
   apply BB
   constructor
   ·intro h9 j h1 h2
    by_cases e:j=i+1
    ·subst e;exact c
    ·exact h9 j h1 (by omega)
   ·intro h9 j h1 h2;exact h9 j h1 (by omega)
theorem iR (n fl:Nat) (r:List Int) (hr:r.length < 1000):Bn (n+3) 13 [S fl r]=some (Value.bool (I9 (Fp r))):=by
 have e:Bn (n+3) 13 [S fl r]=Qr (Bn (n+2)) 1000000 (sl fl r):=by kernel_rfl
 rw[e];unfold Qr
 rw[I4]
 cases hl:r.length with
 | zero =>
  rw[show Aj .i64 (Int.sub (Int.ofNat 0) 1) = -1 from by rw[show Int.sub (Int.ofNat 0) 1 = -1 from rfl];exact Oe _ (by decide) (by decide)]
  show Gs (Bn (n+2)) 1000000 (Hy (Bn (n+2)) 1000000 999999) _ _=_
  unfold Gs
  rw[show AY (0:Int) (-1)=false from rfl,AA,Fb (show Fp r from fun j h1 h2=>by omega)];rfl
 | succ m =>
  rw[Sr (m+1) (by omega) (by omega),Nat.add_sub_cancel,qW n 1000000 fl r hr m 1000000 (by omega) (by omega)]
  congr 2
  apply BB
  exact⟨fun h j h1 h2=>h j h1 (by omega),fun h j h1 h2=>h j h1 (by omega)⟩
theorem qX (pu:Af) (M fl:Nat) (r:List Int) (x:Int) (hr:r.length < 1000):∀ (d w i:Nat),i+d=r.length→d < w→∃ z,Ir pu M w (sl fl r) x (Int.ofNat r.length) (Int.ofNat i)=some (I z)∧nt (AY z 0)=I9 (x∈r.drop i)
 | _,0,_,_,h=>by omega
 | 0, w + 1, i, hd, _ => by
  refine⟨-1,?_,?_⟩
  ·show Iq pu M (Ir pu M w) _ _ _ _=_
   unfold Iq
   rw[BO (by omega),AA];rfl
  ·rw[List.drop_eq_nil_of_le (by omega),FL (by simp)];rfl
 | d + 1, w + 1, i, hd, hw => by
  have hlt:i < r.length:=by omega
  obtain⟨z,z1,z2⟩:=qX pu M fl r x hr d w (i+1) (by omega) (by omega)
  have e:r.drop i=r[i]::r.drop (i+1):=List.drop_eq_getElem_cons hlt
  show ∃ z,Iq pu M (Ir pu M w) _ _ _ _=_∧_
  unfold Iq
  rw[Co hlt]
  simp only[Ak,Cx,Ac,I4,GX,blt_eq,hlt,decide_true,CF,Bool.true_and,BZ,Nat.mul_one,Aja r i hlt,BP]
  by_cases c:x=r[i]
  ·refine⟨Int.ofNat i,by rw[c,gI,Ak],?_⟩
   rw[Fb (show x∈r.drop i from by rw[e,List.mem_cons];exact .inl c)];rfl
  ·refine⟨z,by rw[gL c,AA,DC i (by omega)];exact z1,?_⟩
   rw[z2]
   apply BB
   rw[e,List.mem_cons]
   exact⟨fun h=>.inr h,fun h=>h.resolve_left c⟩
theorem rT (n fl:Nat) (r:List Int) (x:Int) (hr:r.length < 1000):Bn (n+2) 16 [S fl r,I x]=some (Value.bool (I9 (x∈r))):=by
 have e:Bn (n+2) 16 [S fl r,I x]=Qt (Bn (n+1)) 1000000 (sl fl r) x:=by kernel_rfl
 have e2:Bn (n+1) 42 [Sl.v 1 (sl fl r),I x]=Ir (Bn n) 1000000 1000000 (sl fl r) x (Int.ofNat r.length) (Int.ofNat 0):=by kernel_rfl
 obtain⟨z,z1,z2⟩:=qX (Bn n) 1000000 fl r x hr r.length 1000000 0 (by omega) (by omega)
 rw[List.drop_zero] at z2
 rw[e];unfold Qt
 rw[e2,z1,Ac,BP,Ac,z2]
def DB (D:List Bool):List Value:=D.map .bool
theorem KX (D:List Bool):(DB D).length=D.length:=by unfold DB;simp
theorem Je (D:List Bool):Au Ah (DB D)=true:=by
 rw[Bh,List.all_eq_true]
 intro v hv
 obtain⟨b,_,rfl⟩:=List.mem_map.1 hv
 rfl
theorem V8 (D:List Bool) (i:Nat) (h:i < D.length):BM ([.bool true]:List Value) i (DB D)=DB (D.set i true):=by
 rw[Fh _ _ _ (by rw[KX];exact h)];unfold DB;rw[List.map_set]
theorem PK {r:List Int} {p:Int×Int} {A B:Nat} (tA:p.1.toNat=A) (tB:p.2.toNat=B) (hAB:A < B) (h:r.getD B 0 < r.getD A 0):(r.set A (r.getD B 0)).set B (r.getD A 0)=Jw r p:=by
 unfold Jw
 rw[tA,tB,Int.min_eq_right (by omega),Int.max_eq_left (by omega)]
theorem L6 {r:List Int} {p:Int×Int} {A B:Nat} (tA:p.1.toNat=A) (tB:p.2.toNat=B) (hA:A < r.length) (hB:B < r.length) (h:¬ r.getD B 0 < r.getD A 0):r=Jw r p:=by
 unfold Jw
 rw[tA,tB,Int.min_eq_left (by omega),Int.max_eq_right (by omega),LP r A hA,LP r B hB]
theorem mJ (pu:Af) (n c c2:Nat) (r:List Int) (D:List Bool):OM pu n r.length c D.length c2 (r.map I) (DB D)=some (.tuple ⟨[S 0 r,Sl.v 1 ⟨D.length,0,DB D⟩]⟩):=by
 have h1:Aq (D.length*1) (Am 0 (DB D))=DB D:=by rw[Cg,Bz,List.drop_zero,Nat.mul_one];exact List.take_of_length_le (by rw[KX];exact Nat.le_refl _)
 have h2:Nat.ble (0+D.length*1) (len (DB D))=true:=Nat.ble_eq_true_of_le (by rw[AV,KX];omega)
 unfold OM
 rw[Pn,Je,Ak,Ak,Pk,Ak,h1,h2,Je,show an true true=true from rfl,Ak,Sm];rfl
theorem l8 (pu:Af) (n fl c c2 N:Nat) (C:List (Int×Int)) (hf:Jh N C) (hC:C.length < 1000):∀ (d w i:Nat) (r:List Int) (D:List Bool),i+d=C.length→d < w→r.length=N→D.length=C.length →
 ∃ D',K6 pu n w (-1) r.length c D.length c2 (cl fl C) (Int.ofNat C.length) (Int.ofNat i) (r.map I) (DB D)=some (.tuple ⟨[S 0 (runs r (C.drop i)),Sl.v 1 ⟨D'.length,0,DB D'⟩]⟩)
 | _,0,_,_,_,_,h,_,_=>by omega
 | 0, w + 1, i, r, D, hd, _, hr, hD => by
  refine⟨D,?_⟩
  show M9 pu n (K6 pu n w) _ _ _ _ _ _ _ _ _ _=_
  unfold M9
  rw[Pn,Je,Ak,Ak,BO (by omega),AA,List.drop_eq_nil_of_le (by omega)]
  exact mJ pu n c c2 r D
 | d + 1, w + 1, i, r, D, hd, hw, hr, hD => by
  have hlt:i < C.length:=by omega
  obtain⟨g1,g2⟩:=KS C i hlt
  have e:C.drop i=C[i]::C.drop (i+1):=List.drop_eq_getElem_cons hlt
  obtain⟨A,B,hA,hB,a1,b1,hAB,tA,tB⟩:=Sk hf hlt
  have a2:A < r.length:=by omega
  have b2:B < r.length:=by omega
  rw[hA] at g1
  rw[hB] at g2
  have hb:Nat.ble (i*2+2) (len (pc C))=true:=by rw[ble_eq,AV,Gp];simp;omega
  have hne:nt (Bd (Int.ofNat i) (-1))=true:=gK (by show (i:Int) ≠ -1;omega)
  have hiD:i < D.length:=by omega
  rw[e]
  show ∃ D',M9 pu n (K6 pu n w) _ _ _ _ _ _ _ _ _ _=some (.tuple ⟨[S 0 (runs (Jw r C[i]) (C.drop (i+1))),Sl.v 1 ⟨D'.length,0,DB D'⟩]⟩)
  unfold M9
  rw[Pn,Je,Co hlt]
  simp only[Ak,Cx,Ac,QC,Pi,blt_eq,hlt,decide_true,CF,Bool.true_and,hb,BZ,g1,g2,BP,hne,a2,b2,Nat.zero_add,Nat.mul_one,FN r A a2,FN r B b2]
  unfold O6 O5
  by_cases c1:r.getD B 0 < r.getD A 0
  ·have s1:BM ([I (r.getD B 0)]:List Value) A (r.map I)=(r.set A (r.getD B 0)).map I:=by rw[Fh _ _ _ (by simpa using a2),List.map_set]
   have s2:BM ([I (r.getD A 0)]:List Value) B ((r.set A (r.getD B 0)).map I)=(Jw r C[i]).map I:=by
    rw[Fh _ _ _ (by simpa using b2),←List.map_set,PK tA tB hAB c1]
   obtain⟨D',next⟩:=l8 pu n fl c c2 N C hf hC d w (i+1) (Jw r C[i]) (D.set i true) (by omega) (by omega) (by rw[FK];exact hr) (by rw[List.length_set];exact hD)
   rw[FK,List.length_set] at next
   refine⟨D',?_⟩
   rw[Ki.2 c1]
   simp only[Ak,Cx,Ac,blt_eq,a2,b2,hiD,decide_true,CF,Bool.true_and,BZ,Nat.zero_add,Nat.mul_one,FN r A a2,FN r B b2,BP,s1,s2,ble_eq,AV,List.length_map,List.length_set,KX,Nat.succ_le_of_lt a2,Nat.succ_le_of_lt b2,Nat.succ_le_of_lt hiD,Bool.and_true,Pn,Je,V8 D i hiD,DC i (by omega:i < 1000000)]
   exact next
  ·obtain⟨D',next⟩:=l8 pu n fl c c2 N C hf hC d w (i+1) (Jw r C[i]) D (by omega) (by omega) (by rw[FK];exact hr) hD
   rw[←L6 tA tB a2 b2 c1] at next
   refine⟨D',?_⟩
   rw[KJ.2 c1]
   simp only[AA,Ak,Pn,Je,DC i (by omega:i < 1000000)]
   rw[next,←L6 tA tB a2 b2 c1]
theorem PL:∀ k,k < 30→AF ([.bool false]:List Value) k=DB (List.replicate k false):=by
 intro k hk
 have:k=0∨k=1∨k=2∨k=3∨k=4∨k=5∨k=6∨k=7∨k=8∨k=9∨k=10∨k=11∨k=12∨k=13∨k=14∨k=15∨k=16∨k=17∨k=18∨k=19∨k=20∨k=21∨k=22∨k=23∨k=24∨k=25∨k=26∨k=27∨k=28∨k=29:=by omega
 rcases this with rfl | rfl | rfl | rfl | rfl | rfl | rfl | rfl | rfl | rfl | rfl | rfl | rfl | rfl | rfl | rfl | rfl | rfl | rfl | rfl | rfl | rfl | rfl | rfl | rfl | rfl | rfl | rfl | rfl | rfl <;> rfl
theorem p8 (n fl fl' N:Nat) (C:List (Int×Int)) (r:List Int) (h7:N≤7) (hl:C.length≤24) (hC:Jh N C) (hr:r.length=N):∃ D':List Bool,Bn (n+1) 8 [tb fl (Int.ofNat N) C,S fl' r,I (-1)]=some (.tuple ⟨[S 0 (runs r C),Sl.v 1 ⟨D'.length,0,DB D'⟩]⟩):=by
 have e:Bn (n+1) 8 [tb fl (Int.ofNat N) C,S fl' r,I (-1)]=iD (Bn n) 1000000 (Int.ofNat N) (cl fl C) (sl fl' r) (-1):=by kernel_rfl
 have rm:EQ (0+r.length) 8=true:=by rw[Nat.zero_add];exact Nc (by omega)
 have hz:=PL C.length (by omega)
 have hk:an (Nat.ble C.length C.length) (an (Nat.ble (C.length*1) 1099511627776) (an (Nat.ble C.length 1099511627776) true))=true:=by
  rw[CF,CF,CF,ble_eq,ble_eq,ble_eq];simp;omega
 obtain⟨D',h⟩:=l8 (Bn n) 1000000 fl (2*r.length+bb false 1 0) (2*C.length+bb true 1 0) N C hC (by omega) C.length 1000000 0 r (List.replicate C.length false) (by omega) (by omega) hr (by simp)
 rw[List.drop_zero,List.length_replicate] at h
 refine⟨D',?_⟩
 rw[e];unfold iD
 simp only[I4,GX,QC,rm,Ak,Pm,Pn,hk,hz,Je]
 exact h
end Go.TbGM
set_option maxRecDepth 100000
set_option maxHeartbeats 4000000
namespace Go.TbGM
open Go Go.Sp Go.TbG Go.TM
def mK:List Int→Nat
 | []=>2
 | _::_=>0
def slN (r:List Int):Sl:=sl (mK r) r
def pt (i:Nat):Value:=.pointer (some ⟨i,0,none⟩)
theorem PM (p:List Int) (k:Nat) (hk:k≤p.length) (f:Nat):(⟨k - 0,f,Aq ((k - 0)*1) (Am (0*1) (sl 0 p).cs)⟩:Sl)=sl f (p.take k):=by
 show (⟨k - 0,f,Aq ((k - 0)*1) (Am (0*1) (p.map I))⟩:Sl)=⟨(p.take k).length,f,(p.take k).map I⟩
 rw[Cg,Bz,List.length_take,Nat.min_eq_left hk,List.map_take];simp
theorem PN (p:List Int) (k f:Nat):(⟨p.length - k,f,Aq ((p.length - k)*1) (Am (k*1) (sl 0 p).cs)⟩:Sl)=sl f (p.drop k):=by
 show (⟨p.length - k,f,Aq ((p.length - k)*1) (Am (k*1) (p.map I))⟩:Sl)=⟨(p.drop k).length,f,(p.drop k).map I⟩
 rw[Cg,Bz,List.length_drop,List.map_drop,Nat.mul_one,Nat.mul_one,List.take_of_length_le (by simp)]
noncomputable def OO (k:Nat) (C:List (Int×Int)) (w:Bool) (p:List Int):Bool:=w && I9 (Ps k p→Fp (runs p C))
section
variable {N k:Nat} {C:List (Int×Int)}
def o3 (N k:Nat) (C:List (Int×Int)) (w:Bool):List Value:=[.agg ⟨[I (.ofNat k)]⟩,.agg ⟨[I (.ofNat N),Sl.v 2 (cl 0 C)]⟩,.agg ⟨[.bool w]⟩]
theorem rU (n:Nat) (h1:1≤N) (h7:N≤7) (hl:C.length≤24) (hC:Jh N C) (hk:k≤N) {p:List Int} (hp:p.length=N) (w:Bool) :
 Bn (n+4) 10120 ([Sl.v 1 (sl 0 p),pt 1,pt 2,pt 3]++o3 N k C w)=some (.tuple ⟨.tuple ⟨[]⟩::o3 N k C (OO k C w p)⟩):=by
 have e:Bn (n+4) 10120 ([Sl.v 1 (sl 0 p),pt 1,pt 2,pt 3]++o3 N k C w)=Gn (Bn (n+3)) 1000000 (sl 0 p) (Int.ofNat k) (Int.ofNat N) (cl 0 C) w:=by kernel_rfl
 obtain⟨D,h8⟩:=p8 (n+2) 0 0 N C p h7 hl hC hp
 have h8':Bn (n+3) 8 [.agg ⟨[I (Int.ofNat N),Sl.v 2 (cl 0 C)]⟩,Sl.v 1 (sl 0 p),I (-1)]=some (.tuple ⟨[Sl.v 1 (sl 0 (runs p C)),Sl.v 1 ⟨D.length,0,DB D⟩]⟩):=h8
 have hrun:Bn (n+3) 13 [Sl.v 1 (sl 0 (runs p C))]=some (.bool (I9 (Fp (runs p C)))):=iR n 0 (runs p C) (by rw[DT];omega)
 have htake:∀ f,Bn (n+3) 13 [Sl.v 1 (sl f (p.take k))]=some (.bool (I9 (Fp (p.take k)))):=fun f=>iR n f (p.take k) (by rw[List.length_take];omega)
 have hdrop:∀ f,Bn (n+3) 13 [Sl.v 1 (sl f (p.drop k))]=some (.bool (I9 (Fp (p.drop k)))):=fun f=>iR n f (p.drop k) (by rw[List.length_drop];omega)
 have e0:∀ b:Bool,b=I9 (Ps k p)→DL (Bn (n+3)) 1000000 (sl 0 p) b (Int.ofNat k) (Int.ofNat N) (cl 0 C) w=some (.tuple ⟨.tuple ⟨[]⟩::o3 N k C (OO k C w p)⟩):=by
  intro b hb
  unfold DL OO
  subst hb
  by_cases hm:Ps k p
  ·rw[Fb hm,Ak,h8']
   simp only[Ac,FW,Dj,EG,Dc,hrun,BU]
   rw[BB (show (Ps k p→Fp (runs p C))↔Fp (runs p C) from ⟨fun h=>h hm,fun h _=>h⟩)]
   cases w with
   | true=>rw[Ak,Bool.true_and];rfl
   | false=>rw[AA,Bool.false_and];rfl
  ·rw[FL hm,AA,Fb (show Ps k p→Fp (runs p C) from fun h=>absurd h hm),Bool.and_true];rfl
 have hn:(sl 0 p).n=p.length:=rfl
 have hf:(sl 0 p).fl=0:=rfl
 have hkb:Nat.ble k p.length=true:=Nat.ble_eq_true_of_le (by omega)
 rw[e]
 unfold Gn
 rw[hn,hf,show nt (Nat.beq 0 2)=true from rfl,Ak,Cx,Ac,hkb,Ak,PM p k (by omega),htake,Ac,BU,Ac]
 by_cases g1:Fp (p.take k)
 ·rw[Fb g1,Ak,Ak,Ak,PN,hdrop,Ac,BU,Ac]
  refine e0 _ (BB ⟨fun h=>⟨g1,h⟩,fun h=>h.2⟩)
 ·rw[FL g1,AA]
  exact e0 _ (FL fun h=>g1 h.1).symm
noncomputable def Gy (k:Nat) (C:List (Int×Int)) (w:Bool) (l:List (List Int)):Bool:=l.foldl (OO k C) w
def objs (N k:Nat) (C:List (Int×Int)) (w:Bool):List Value:=[.agg ⟨[I (.ofNat N)]⟩,.agg ⟨[.func (.func 12) ⟨[]⟩ ⟨[pt 4,pt 5,pt 6]⟩]⟩,.agg ⟨[.func (.func 15) ⟨[]⟩ ⟨[pt 1,pt 2,pt 3]⟩]⟩]++o3 N k C w
def QH (N k:Nat) (C:List (Int×Int)) (r:List Int) (w:Bool):List Value:=[Sl.v 1 (slN r),pt 1,pt 2,pt 3]++objs N k C w
def QJ (N k:Nat) (C:List (Int×Int)) (w:Bool):Value:=.tuple ⟨.tuple ⟨[]⟩::objs N k C w⟩
theorem gW (n:Nat) (r:List Int) (w:Bool):Bn (n+1) 10150 (QH N k C r w)=FD (Bn n) 1000000 (slN r) (Int.ofNat N) (Int.ofNat k) (Int.ofNat N) (cl 0 C) w:=by kernel_rfl
theorem rV (n:Nat) (r:List Int):Bn (n+1) 17 [Sl.v 1 (slN r)]=some (Sl.v 1 (KY 1 (slN r))):=by
 have e:Bn (n+1) 17 [Sl.v 1 (slN r)]=Qu (Bn n) 1000000 (slN r):=by kernel_rfl
 rw[e];unfold Qu
 cases r with
 | nil=>rfl
 | cons a r=>rfl
theorem OG (r:List Int):(KY 1 (slN r)).n=r.length∧(KY 1 (slN r)).cs=r.map I∧Dp (Nat.beq (KY 1 (slN r)).fl 1) (Nat.beq (KY 1 (slN r)).fl 2)=true:=by
 cases r with
 | nil=>exact⟨rfl,rfl,rfl⟩
 | cons a r =>
  refine⟨rfl,?_,rfl⟩
  show Aq (((a::r).length - 0)*1) (Am (0*1) ((a::r).map I))=_
  rw[Cg,Bz,Nat.zero_mul,List.drop_zero,Nat.sub_zero,Nat.mul_one,List.take_of_length_le (by simp)]
theorem QK (r:List Int) (z:Int):(⟨(KY 1 (slN r)).n+1,0,Aq (((KY 1 (slN r)).n+1)*1) (Am 0 (Br (KY 1 (slN r)).cs [I z]))⟩:Sl)=slN (r++[z])∧an (Nat.ble (0+((KY 1 (slN r)).n+1)*1) (len (Br (KY 1 (slN r)).cs ([I z]:List Value)))) (Au Ah (Aq (((KY 1 (slN r)).n+1)*1) (Am 0 (Br (KY 1 (slN r)).cs ([I z]:List Value)))))=true:=by
 obtain⟨h1,h2,_⟩:=OG r
 have e1:Br (r.map I) [I z]=(r++[z]).map I:=by rw[BH];simp
 have e2:Aq ((r.length+1)*1) (Am 0 ((r++[z]).map I))=(r++[z]).map I:=by
  rw[Cg,Bz,List.drop_zero,Nat.mul_one,List.take_of_length_le (by simp)]
 rw[h1,h2,e1,e2]
 constructor
 ·have e3:(r++[z]).length=r.length+1:=by simp
  have e4:mK (r++[z])=0:=by
   cases h:r++[z] with
   | nil=>rw[h] at e3;simp at e3
   | cons a m=>rfl
  unfold slN sl
  rw[e3,e4]
 ·have e5:Nat.ble (0+(r.length+1)*1) (len ((r++[z]).map I))=true:=Nat.ble_eq_true_of_le (by rw[AV];simp)
  rw[e5,Pn];rfl
theorem MF (n d:Nat) (hN:N≤7) (r:List Int) (hr:r.length≤7) (hS:∀ (z:Int) (w:Bool),Bn (n+5) 10150 (QH N k C (r++[z]) w)=some (QJ N k C (Gy k C w (Eb N d (r++[z]))))):∀ (e v i:Nat) (w:Bool),i+e=N→e < v →
 Cs (Bn (n+5)) 1000000 v (slN r) (Int.ofNat i) (Int.ofNat N) (Int.ofNat k) (Int.ofNat N) (cl 0 C) w=some (QJ N k C (Gy k C w (((List.range N).drop i).flatMap fun j=>if Int.ofNat j∈r then [] else Eb N d (r++[Int.ofNat j]))))
 | _,0,_,_,_,h=>by omega
 | 0, v + 1, i, w, hi, _ => by
  show Dy (Bn (n+5)) 1000000 (Cs (Bn (n+5)) 1000000 v) (slN r) (Int.ofNat i) (Int.ofNat N) (Int.ofNat k) (Int.ofNat N) (cl 0 C) w=_
  unfold Dy
  rw[BO (by omega),AA,List.drop_eq_nil_of_le (by simp;omega)];rfl
 | e + 1, v + 1, i, w, hi, hv => by
  have hlt:i < N:=by omega
  have yY:(List.range N).drop i=i::(List.range N).drop (i+1):=by
   rw[List.drop_eq_getElem_cons (by simpa using hlt)];simp
  have h16:Bn (n+5) 16 [Sl.v 1 (slN r),I (Int.ofNat i)]=some (.bool (I9 (Int.ofNat i∈r))):=rT (n+3) (mK r) r (Int.ofNat i) (by omega)
  have ih:=fun w=>MF n d hN r hr hS e v (i+1) w (by omega) (by omega)
  rw[yY,List.flatMap_cons]
  show Dy (Bn (n+5)) 1000000 (Cs (Bn (n+5)) 1000000 v) (slN r) (Int.ofNat i) (Int.ofNat N) (Int.ofNat k) (Int.ofNat N) (cl 0 C) w=_
  unfold Dy
  rw[Co hlt,Ak,h16,Ac,BU,Ac]
  by_cases hm:Int.ofNat i∈r
  ·rw[Fb hm,show nt true=false from rfl,AA,if_pos hm,List.nil_append]
   unfold Dr
   rw[DC i (by omega)]
   exact ih w
  ·rw[FL hm,show nt false=true from rfl,Ak,if_neg hm]
   obtain⟨a1,a2⟩:=QK r (Int.ofNat i)
   obtain⟨c1,c2,c3⟩:=OG r
   have hroom:EQ ((KY 1 (slN r)).n+1) 8=true:=by rw[c1];exact Nc (by omega)
   have hcall:=hS (Int.ofNat i) w
   rw[rV,Ac,Dc,Ac,c3,hroom,show an true true=true from rfl,Ak,a2,Ak,a1]
   refine Eq.trans (congrArg (fun q=>oo q none _) hcall) ?_
   have hfold:Gy k C w (Eb N d (r++[Int.ofNat i])++((List.range N).drop (i+1)).flatMap fun j=>if Int.ofNat j∈r then [] else Eb N d (r++[Int.ofNat j]))=Gy k C (Gy k C w (Eb N d (r++[Int.ofNat i]))) (((List.range N).drop (i+1)).flatMap fun j=>if Int.ofNat j∈r then [] else Eb N d (r++[Int.ofNat j])):=by unfold Gy;rw[List.foldl_append]
   rw[hfold,←ih (Gy k C w (Eb N d (r++[Int.ofNat i])))]
   show Dr (Bn (n+5)) 1000000 (Cs (Bn (n+5)) 1000000 v) (slN r) (Int.ofNat i) (Int.ofNat N) (Int.ofNat k) (Int.ofNat N) (cl 0 C) (Gy k C w (Eb N d (r++[Int.ofNat i])))=_
   unfold Dr
   rw[DC i (by omega)]
theorem OH (h1:1≤N) (h7:N≤7) (hl:C.length≤24) (hC:Jh N C) (hk:k≤N):∀ (d n:Nat) (r:List Int) (w:Bool),r.length+d=N→Bn (n+d+5) 10150 (QH N k C r w)=some (QJ N k C (Gy k C w (Eb N d r)))
 | 0, n, r, w, hr => by
  rw[gW]
  unfold FD
  have hfl:slN r=sl 0 r:=by
   cases r with
   | nil=>simp at hr;omega
   | cons a r=>rfl
  have h12:=rU n h1 h7 hl hC hk (p:=r) (by omega) w
  rw[hfl,I4,show r.length=N from by omega,gI,Ak]
  refine Eq.trans (congrArg (fun q=>oo q none _) h12) ?_
  rfl
 | d + 1, n, r, w, hr => by
  have hS:∀ (z:Int) (w:Bool),Bn ((n+d)+5) 10150 (QH N k C (r++[z]) w)=some (QJ N k C (Gy k C w (Eb N d (r++[z])))):=fun z w=>OH h1 h7 hl hC hk d n (r++[z]) w (by simp;omega)
  have hlp:=MF (n+d) d h7 r (by omega) hS N 1000000 0 w (by omega) (by omega)
  rw[List.drop_zero] at hlp
  rw[show n+(d+1)+5=(n+d+5)+1 from by omega,gW]
  unfold FD
  rw[show (slN r).n=r.length from rfl,gL (show Int.ofNat r.length≠Int.ofNat N from fun h=>by have:=Int.ofNat.inj h;omega),AA]
  exact hlp
theorem mM (n:Nat) (h1:1≤N) (h7:N≤7) (hl:C.length≤24) (hC:Jh N C) (hk:k≤N) (w:Bool) :
 Bn (n+N+6) 10060 ([I (Int.ofNat N),.func (.func 12) ⟨[]⟩ ⟨[pt 1,pt 2,pt 3]⟩]++o3 N k C w)=some (.tuple ⟨.tuple ⟨[]⟩::o3 N k C (Gy k C w (Eb N N []))⟩):=by
 have e:Bn (n+N+5+1) 10060 ([I (Int.ofNat N),.func (.func 12) ⟨[]⟩ ⟨[pt 1,pt 2,pt 3]⟩]++o3 N k C w)=Gm (Bn (n+N+5)) 1000000 (Int.ofNat N) (Int.ofNat k) (Int.ofNat N) (cl 0 C) w:=by kernel_rfl
 have h:=OH h1 h7 hl hC hk N n [] w (by simp)
 rw[show n+N+6=n+N+5+1 from rfl,e]
 unfold Gm
 refine Eq.trans (congrArg (fun q=>oo q none _) h) ?_
 rfl
theorem OJ:∀ (l:List (List Int)) (w:Bool),Gy k C w l=(w && I9 (∀ p∈l,Ps k p→Fp (runs p C)))
 | [], w => by
  show w=_
  rw[Fb (fun p hp=>by cases hp),Bool.and_true]
 | p :: l, w => by
  show Gy k C (OO k C w p) l=_
  rw[OJ l]
  unfold OO
  rw[Bool.and_assoc]
  congr 1
  by_cases g1:Ps k p→Fp (runs p C)
  ·rw[Fb g1,Bool.true_and]
   exact BB ⟨fun h q hq=>by rcases List.mem_cons.1 hq with rfl | hq;exact g1;exact h q hq,fun h q hq=>h q (by simp[hq])⟩
  ·rw[FL g1,Bool.false_and,FL fun h=>g1 (h p (by simp))]
end
end Go.TbGM
set_option maxRecDepth 100000
set_option maxHeartbeats 4000000
namespace Go.TbGM
open Go Go.Sp Go.TbG Go.TM
noncomputable section
def FE (a:List Value):List Value→Bool:=List.rec (motive:=fun _=>List Value→Bool) (fun b=>MQ b) (fun x _ ih b=>ll b false fun y b=>oo (Bi .i64 x) false fun u=>oo (Bi .i64 y) false fun v=>an (Bd u v) (ih b)) a
def rowIs (o:Option Value) (l:List Int):Bool:=oo o false fun v=>oo (Bj 1 v) false fun s=>an (Nat.beq s.n (len l)) (an (Nat.beq s.fl 0) (FE s.cs (AP I l)))
def QL (N k a c:Nat):Int:=jF .i64 (QW .i64 (Aj .i64 (Int.sub (QW .i64 (1:Int) a) (1:Int))) (N - k)) (Aj .i64 (Int.sub (QW .i64 (1:Int) c) (1:Int)))
def OP (f:Nat→Bool) (n:Nat):Bool:=Nat.rec (motive:=fun _=>Bool) true (fun i ih=>an (f i) ih) n
end
theorem FY {f:Nat→Bool}:∀ {n:Nat},OP f n=true→∀ i,i < n→f i=true
 | 0,_,i,h=>by omega
 | n + 1, h, i, hi => by
  have h:an (f n) (OP f n)=true:=h
  rw[CF,Bool.and_eq_true] at h
  by_cases e:i=n
  ·subst e;exact h.1
  ·exact FY h.2 i (by omega)
theorem JO:∀ {a:List Value} {l:List Int},FE a (l.map I)=true→a=l.map I
 | [],[],_=>rfl
 | [],_::_,h=>by cases h
 | x::a,[],h=>by cases h
 | x :: a, y :: l, h => by
  have h:oo (Bi .i64 x) false (fun u=>an (Bd u y) (FE a (l.map I)))=true:=h
  cases hx:Bi .i64 x with
  | none=>rw[hx] at h;cases h
  | some u =>
   rw[hx,Ac,CF,Bool.and_eq_true,Lr] at h
   have e1:u=y:=by simpa using h.1
   rw[Eh hx,e1,JO h.2];rfl
theorem PO {o:Option Value} {l:List Int} (h:rowIs o l=true):o=some (S 0 l):=by
 unfold rowIs at h
 cases o with
 | none=>cases h
 | some v =>
  rw[Ac] at h
  cases hs:Bj 1 v with
  | none=>rw[hs] at h;cases h
  | some s =>
   rw[hs,Ac,CF,CF,Bool.and_eq_true,Bool.and_eq_true] at h
   obtain⟨h1,h2,h3⟩:=h
   have e1:=Nat.eq_of_beq_eq_true h1
   have e2:=Nat.eq_of_beq_eq_true h2
   rw[Cc] at h3
   have e3:=JO h3
   rw[Qh hs]
   obtain⟨a,b,c⟩:=s
   dsimp only at e1 e2 e3
   subst e2 e3
   rw[e1,AV];rfl
theorem PP (n:Nat):OP (fun N=>OP (fun k=>OP (fun a=>OP (fun c=>rowIs (Bn (n+1) 41 [I (Int.ofNat N),I (QL N k a c)]) (two N k a c)) (Nat.succ (N - k))) (Nat.succ k)) (Nat.succ N)) 6=true:=by kernel_rfl
theorem p41 (n:Nat) {N k a c:Nat} (hN:N≤5) (hk:k≤N) (ha:a≤k) (hc:c≤N - k):Bn (n+1) 41 [I (Int.ofNat N),I (QL N k a c)]=some (S 0 (two N k a c)):=
 PO (FY (FY (FY (FY (PP n) N (by omega)) k (by omega)) a (by omega)) c (by omega))
section
variable {N k:Nat} {C:List (Int×Int)}
def Q (N k:Nat) (C:List (Int×Int)) (a c:Nat):Prop:=Fp (runs (two N k a c) C)
theorem gX (n M fl:Nat) (ih0:Int→Int→Int→Int→Sl→Option Value) (hN:N≤5) (hk:k≤N) (hl:C.length≤24) (hC:Jh N C) (hc0:Si (Int.ofNat N) C=0) {a:Nat} (ha:a≤k) (z1:Int):∀ (d w c:Nat),c+d=N - k+1→d < w →
 Ji (Bn (n+3)) M ih0 w (Int.ofNat k) (Int.ofNat a) z1 (Int.ofNat a) (Int.ofNat (N - k+1)) (Int.ofNat c) (Int.ofNat N) (cl fl C)=bb (I9 (∀ c',c≤c'→c'≤N - k→Q N k C a c')) (K7 (Bn (n+3)) M ih0 (Int.ofNat k) z1 (Int.ofNat a) (Int.ofNat N) (cl fl C)) (some (.tuple ⟨[.bool false,I 0]⟩))
 | _,0,_,_,h=>by omega
 | 0, w + 1, c, hd, _ => by
  show Hz (Bn (n+3)) M ih0 (Ji (Bn (n+3)) M ih0 w) _ _ _ _ _ _ _ _=_
  unfold Hz
  rw[BO (by omega),AA,Fb (fun c' h1 h2=>by omega),Ak]
 | d + 1, w + 1, c, hd, hw => by
  have hlt:c < N - k+1:=by omega
  have ih:=gX n M fl ih0 hN hk hl hC hc0 ha z1 d w (c+1) (by omega) (by omega)
  have h41:Bn (n+3) 41 [I (Int.ofNat N),I (QL N k a c)]=some (Sl.v 1 (sl 0 (two N k a c))):=p41 (n+2) hN hk ha (by omega)
  have h23:Bn (n+3) 23 [.agg ⟨[I (Int.ofNat N),Sl.v 2 (cl fl C)]⟩,Sl.v 1 (sl 0 (two N k a c))]=some (.tuple ⟨[Sl.v 1 (sl 0 (runs (two N k a c) C)),I 0]⟩):=mG n fl 0 N C (two N k a c) (by omega) hl hC hc0 (KW hk ha (by omega))
  have h13:Bn (n+3) 13 [Sl.v 1 (sl 0 (runs (two N k a c) C))]=some (.bool (I9 (Fp (runs (two N k a c) C)))):=iR n 0 _ (by rw[DT,KW hk ha (by omega)];omega)
  have hsub:Aj .i64 (Int.sub (Int.ofNat N) (Int.ofNat k))=Int.ofNat (N - k):=QE N k (by omega) hk
  show Hz (Bn (n+3)) M ih0 (Ji (Bn (n+3)) M ih0 w) _ _ _ _ _ _ _ _=_
  unfold Hz
  rw[Co hlt,Ak,Cx,Ac,hsub,Cx,Ac,Cx,Ac]
  show oo (Bn (n+3) 41 [I (Int.ofNat N),I (QL N k a c)]) none _=_
  rw[h41,Ac,Dc,Ac,h23,Ac,FW,Ac,Dj,Dj,EG,Dc,Ac,BP,Ac,h13,Ac,BU,Ac,DC c (by omega)]
  by_cases g:Q N k C a c
  ·rw[Fb (show Fp (runs (two N k a c) C) from g),show nt true=false from rfl,AA,ih]
   congr 1
   apply BB
   constructor
   ·intro h c' h1 h2
    by_cases e:c'=c
    ·subst e;exact g
    ·exact h c' (by omega) h2
   ·intro h c' h1 h2;exact h c' (by omega) h2
  ·rw[FL (show ¬ Fp (runs (two N k a c) C) from g),show nt false=true from rfl,Ak,FL (fun h=>g (h c (Nat.le_refl _) (by omega))),AA]
theorem gY (n fl:Nat) (hN:N≤5) (hk:k≤N) (hl:C.length≤24) (hC:Jh N C) (hc0:Si (Int.ofNat N) C=0):∀ (d w a:Nat),a+d=k+1→d < w →
 FM (Bn (n+3)) 1000000 w (Int.ofNat k) (Int.ofNat (k+1)) (Int.ofNat a) (Int.ofNat N) (cl fl C)=some (.tuple ⟨[.bool (I9 (∀ a',a≤a'→a'≤k→∀ c,c≤N - k→Q N k C a' c)),I 0]⟩)
 | _,0,_,_,h=>by omega
 | 0, w + 1, a, hd, _ => by
  show HV (Bn (n+3)) 1000000 (FM (Bn (n+3)) 1000000 w) _ _ _ _ _=_
  unfold HV
  rw[BO (by omega),AA,Fb (fun a' h1 h2=>by omega)];rfl
 | d + 1, w + 1, a, hd, hw => by
  have ih:=gY n fl hN hk hl hC hc0 d w (a+1) (by omega) (by omega)
  have h3:=gX n 1000000 fl (FM (Bn (n+3)) 1000000 w) hN hk hl hC hc0 (a:=a) (by omega) (Int.ofNat (k+1)) (N - k+1) 1000000 0 (by omega) (by omega)
  have hw1:Aj .i64 (Int.add (Aj .i64 (Int.sub (Int.ofNat N) (Int.ofNat k))) 1)=Int.ofNat (N - k+1):=by rw[QE N k (by omega) hk];exact Pp (N - k) 1 (by omega)
  show HV (Bn (n+3)) 1000000 (FM (Bn (n+3)) 1000000 w) _ _ _ _ _=_
  unfold HV
  rw[Co (by omega),Ak,hw1]
  refine Eq.trans h3 ?_
  by_cases g:∀ c',0≤c'→c'≤N - k→Q N k C a c'
  ·rw[Fb g,Ak]
   unfold K7
   rw[DC a (by omega),ih]
   refine congrArg (fun q=>some (Value.tuple ⟨[.bool q,I 0]⟩)) ?_
   apply BB
   constructor
   ·intro h a' h1 h2 c hc
    by_cases e:a'=a
    ·subst e;exact g c (Nat.zero_le _) hc
    ·exact h a' (by omega) h2 c hc
   ·intro h a' h1 h2;exact h a' (by omega) h2
  ·rw[FL g,AA,FL (fun h=>g fun c _ hc=>h a (Nat.le_refl _) (by omega) c hc)]
theorem rW (n fl:Nat) (h1:1≤N) (hN:N≤5) (hk:k≤N) (hl:C.length≤24) (hC:Jh N C):Bn (n+4) 14 [tb fl (Int.ofNat N) C,I (Int.ofNat k)]=some (.tuple ⟨[.bool (I9 (∀ a,a≤k→∀ c,c≤N - k→Q N k C a c)),I 0]⟩):=by
 have e:Bn (n+4) 14 [tb fl (Int.ofNat N) C,I (Int.ofNat k)]=Qs (Bn (n+3)) 1000000 (Int.ofNat N) (cl fl C) (Int.ofNat k):=by kernel_rfl
 have hc0:Si (Int.ofNat N) C=0:=VW h1 (by omega) hl hC
 have e40:=p40 (n+1) fl (Int.ofNat N) C
 rw[hc0] at e40
 have e40':Bn (n+3) 40 [.agg ⟨[I (Int.ofNat N),Sl.v 2 (cl fl C)]⟩]=some (I 0):=e40
 have e20:Bn (n+3) 20 [I 0,I (Int.ofNat k),I (Int.ofNat N)]=some (.bool true):=by
  rw[qV]
  have:(decide ((0:Int)≤Int.ofNat k) && decide (Int.ofNat k≤Int.ofNat N))=true:=by
   rw[Bool.and_eq_true,decide_eq_true_iff,decide_eq_true_iff]
   exact⟨Int.natCast_nonneg k,Int.ofNat_le.2 hk⟩
  rw[this]
 have h:=gY n fl hN hk hl hC hc0 (k+1) 1000000 0 (by omega) (by omega)
 have hw:Aj .i64 (Int.add (Int.ofNat k) 1)=Int.ofNat (k+1):=Pp k 1 (by omega)
 rw[e];unfold Qs
 rw[e40',Ac,BP,Ac,show nt (Bd (0:Int) 0)=false from rfl,AA,e20,Ac,BU,Ac,show nt true=false from rfl,AA,hw]
 refine Eq.trans h ?_
 refine congrArg (fun q=>some (Value.tuple ⟨[.bool q,I 0]⟩)) ?_
 exact BB ⟨fun h a ha c hc=>h a (Nat.zero_le _) ha c hc,fun h a _ ha c hc=>h a ha c hc⟩
end
theorem rX (n:Nat):Bn (n+4) 11 []=some (.bool true):=by kernel_rfl
theorem OQ (n L u:Nat) (P:List (Nat×Nat)) (b:Bool) (hL:L < 256) (hP:byte P) (hu:u < 256) :
 Bn (n+14) 4 [.agg ⟨[.int .u8 (Int.ofNat L),Sl.v 2 (ps P),.bool b]⟩,.int .u8 (Int.ofNat u)]=some (.bool true):=by
 have e:Bn (n+14) 4 [.agg ⟨[.int .u8 (Int.ofNat L),Sl.v 2 (ps P),.bool b]⟩,.int .u8 (Int.ofNat u)]=iB (Bn (n+13)) 1000000 (Int.ofNat L) (ps P) b (Int.ofNat u):=by kernel_rfl
 obtain⟨C,hC,hl,h5⟩:=gU (n+12) L 10 P hL hP b (Nat.le_refl _)
 have hl24:C.length≤24:=by cases b <;> simp at hl <;> omega
 have hmod:L % 5 < 5:=Nat.mod_lt _ (by omega)
 generalize hN:1+L % 5=N at *
 have h1:1≤N:=by omega
 have hN5:N≤5:=by omega
 have hk:u % (N+1)≤N:=by have:=Nat.mod_lt u (show 0 < N+1 by omega);omega
 have h5':Bn (n+13) 5 [.agg ⟨[.int .u8 (Int.ofNat L),Sl.v 2 (ps P),.bool b]⟩,I 10]=some (.agg ⟨[I (Int.ofNat N),Sl.v 2 (cl 0 C)]⟩):=h5
 have hw1:Aj .i64 (Int.add (Int.ofNat N) 1)=Int.ofNat (N+1):=Pp N 1 (by omega)
 have hne:nt (Bd (Int.ofNat (N+1)) 0)=true:=mI (by omega)
 have hm:Int.tmod (Aj .i64 (Int.ofNat u)) (Int.ofNat (N+1))=Int.ofNat (u % (N+1)):=by rw[wN u (by omega),Pq]
 have h6:=mM (n+7 - N) h1 (by omega) hl24 hC hk true
 rw[show n+7 - N+N+6=n+13 from by omega,OJ,Bool.true_and] at h6
 have h14:Bn (n+13) 14 [.agg ⟨[I (Int.ofNat N),Sl.v 2 (cl 0 C)]⟩,I (Int.ofNat (u % (N+1)))]=some (.tuple ⟨[.bool (I9 (∀ a,a≤u % (N+1)→∀ c,c≤N - u % (N+1)→Q N (u % (N+1)) C a c)),I 0]⟩):=rW (n+9) 0 h1 hN5 hk hl24 hC
 have hsame:I9 (∀ a,a≤u % (N+1)→∀ c,c≤N - u % (N+1)→Q N (u % (N+1)) C a c)=I9 (∀ p∈Eb N N [],Ps (u % (N+1)) p→Fp (runs p C)):=BB (V6 hC hk).symm
 rw[hsame] at h14
 generalize I9 (∀ p∈Eb N N [],Ps (u % (N+1)) p→Fp (runs p C))=q at h6 h14
 rw[e];unfold iB MM
 rw[h5',Ac,RL,Ac,Dj,Dj,EG,BP,Ac,show Bj 2 (Sl.v 2 (cl 0 C))=some (cl 0 C) from rfl,Ac,hw1,hne,Ak,hm]
 refine Eq.trans (congrArg (fun q=>oo q none _) h6) ?_
 show oo (Bn (n+13) 14 [.agg ⟨[I (Int.ofNat N),Sl.v 2 (cl 0 C)]⟩,I (Int.ofNat (u % (N+1)))]) none _=_
 rw[h14,Ac,FW,Ac,Dj,Dj,EG,BU,Ac,BP,Ac,show Bd (0:Int) 0=true from rfl,Ak,show bq true (bq q q)=true from by cases q <;> rfl,Ak,rX (n+9),Ac,BU,Ac]
end Go.TbGM
set_option maxRecDepth 100000
namespace Go.TbGM
open Go Go.ChangeShapes Go.WideShapes Go.ChangeAt Go.RowKit Go.Sp Go.TbG
theorem iT {n:Int} (h:(Lit.int .u8 n).wf=true):∃ m:Nat,n=Int.ofNat m∧m < 256:=by
 simp only[Lit.wf,Bool.and_eq_true,decide_eq_true_eq] at h
 have h1:(0:Int)≤n:=h.1
 have h2:n≤(255:Int):=h.2
 exact⟨n.toNat,(Int.toNat_of_nonneg h1).symm,by omega⟩
section
variable {P:Program} {t:TypeId} {xs:List Value}
theorem V9 {e e3:TypeId} (ht:P.underlying t=some (.slice e)) (he:P.underlying e=some (.array 2 e3)) (h3:P.underlying e3=some (.int .u8)) (hc:P.cellsOf e=2) (h:M5 P t xs) :
 ∃ C:List (Nat×Nat),xs=[Sl.v 2 (ps C)]∧byte C:=by
 obtain⟨ls,hl,hs,rfl⟩:=h.slice_inv ht
 have:∃ C:List (Nat×Nat),C.length=ls.length∧ls.flatten=pl C∧byte C:=by
  clear hl h
  induction ls with
  | nil=>exact⟨[],rfl,rfl,by intro p hp;cases hp⟩
  | cons m ls ih =>
   obtain⟨C,h1,h2,h4⟩:=ih fun l hl=>hs l (by simp[hl])
   obtain⟨ms,k1,rfl,k3⟩:=(hs m (by simp)).array_inv he
   match ms,k1 with
   | [x, y], _ =>
    obtain⟨a,rfl,wa⟩:=(k3 x (by simp)).int_inv h3
    obtain⟨b,rfl,wb⟩:=(k3 y (by simp)).int_inv h3
    obtain⟨a,rfl,la⟩:=iT wa
    obtain⟨b,rfl,lb⟩:=iT wb
    refine⟨(a,b)::C,by simp[h1],by simp[h2,pl],?_⟩
    intro p hp
    rcases List.mem_cons.1 hp with rfl | hp
    ·exact⟨la,lb⟩
    ·exact h4 p hp
 obtain⟨C,h1,h2,h4⟩:=this
 refine⟨C,?_,h4⟩
 rw[hc,h2,←h1];rfl
end

end Go.TbGM
