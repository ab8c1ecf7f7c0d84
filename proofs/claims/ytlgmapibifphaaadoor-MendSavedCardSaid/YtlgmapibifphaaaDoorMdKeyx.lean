import Derived.Test.YtlgmapibifphaaaDoorMnSF6x
import Derived.Test.YtlgmapibifphaaaDoorMnSLaw5x
import Derived.Test.YtlgmapibifphaaaDoorMnSHx
set_option maxRecDepth 100000
namespace Go.MnSM
open Go.Sp Go.MnS Go.MdM
def XP:List Nat→List (Nat×Nat)
 | a::b::t=>(min a b,max a b)::XP (b::t)
 | _=>[]
def Qv (L:List (List Nat)):List (Nat×Nat):=L.flatMap XP
theorem V3:∀ (t:List Nat) (x:Nat),(XP (x::t)).length=t.length
 | [],_=>rfl
 | y :: t, x => by
  have:=V3 t y
  unfold XP
  rw[List.length_cons,this,List.length_cons]
theorem bI {N:Nat} {H W:Nat→Int} {Q:Bn→Prop} {f:Nat}:∀ (e:List Nat) (R:Bn) (last:Nat),BB N H W Q f R last e→card N R=card N (rem R e)+e.length
 | [],R,_,_=>by rw[Jv];rfl
 | i :: e, R, _, h => by
  obtain⟨h1,h2,_,h4⟩:=h
  have:=bI e _ _ h4
  rw[HV,Gn h1 h2,this,List.length_cons]
  omega
theorem Yk {N:Nat} {H W:Nat→Int}:∀ (L:List (List Nat)) (S:Bn),BI N H W S L→(Qv L).length+L.length=card N S
 | [], S, h => by
  have h:∀ i,i < N→S i=false:=h
  have:card N S=0:=by
   unfold card
   rw[List.countP_eq_zero]
   intro i hi
   rw[h i (by simpa using hi)];simp
  rw[this];rfl
 | r :: L, S, h => by
  obtain⟨f,e,rfl,⟨h1,h2,_⟩,h3,h4⟩:=h
  have ih:=Yk L _ h4
  have c1:=Gn h1 h2
  have c2:=bI e _ _ h3
  rw[HV] at ih
  have:Qv ((f::e)::L)=XP (f::e)++Qv L:=by unfold Qv;rw[List.flatMap_cons]
  rw[this,List.length_append,V3,List.length_cons]
  omega
theorem kY (l:List Int) (a i:Nat) (x:Int) (ha:a < l.length):fn (l.set a x) i=if i=a then x else fn l i:=by
 unfold fn
 rw[List.getD_eq_getElem?_getD,List.getD_eq_getElem?_getD,List.getElem?_set]
 by_cases h:a=i
 ·subst h;simp[ha]
 ·have:¬ i=a:=λe=>h e.symm
  simp[h,this]
theorem kZ {h:List Int} {A B:Nat} (hA:A < h.length) (hB:B < h.length) (i:Nat):fn (swp h A B) i=if i=B then fn h A else if i=A then fn h B else fn h i:=by
 unfold swp
 rw[kY _ _ _ _ (by rw[List.length_set];exact hB),kY _ _ _ _ hA]
 rfl
def chn (h w:List Int) (c:Int):Nat→List Nat→Prop
 | x,[]=>fn w x=c
 | x,y::t=>fn h y=fn w x∧chn h w c y t
theorem Pn {h h' w:List Int} {c:Int}:∀ (t:List Nat) (x:Nat),(∀ y∈t,fn h' y=fn h y)→chn h w c x t→chn h' w c x t
 | [],_,_,h=>h
 | y::t,x,g,h=>⟨by rw[g y (by simp)];exact h.1,Pn t y (λz hz=>g z (by simp[hz])) h.2⟩
theorem lH {N:Nat} {h w:List Int} {Q:Bn→Prop} {f:Nat}:∀ (e:List Nat) (R:Bn) (last:Nat),BB N (fn h) (fn w) Q f R last e→chn h w (fn h f) last e
 | [],_,_,g=>g.1
 | i::e,_,_,g=>⟨g.2.2.1,lH e _ _ g.2.2.2⟩
theorem AcL (P Q:List (Nat×Nat)):zz (P++Q)=zz P++zz Q:=by simp[zz]
theorem oQ (w h:List Int) (x y:Nat) (C:List (Int×Int)) (hx:x < h.length) (hy:y < h.length) (hne:x≠y) :
 ∃ h',h'.length=h.length∧(∀ i,fn h' i=if i=y then fn h x else if i=x then fn h y else fn h i)∧kW w h ((Int.ofNat (min x y),Int.ofNat (max x y))::C)=kW w h' C:=by
 have he:ZA (Int.ofNat (min x y)) (Int.ofNat (max x y)) h.length=0:=by
  unfold ZA
  simp only[Int.ofNat_eq_natCast]
  rw[Hz (by omega),Hz (by omega)]
 refine⟨swp h (min x y) (max x y),Ow _ _ _,λi=>?_,?_⟩
 ·by_cases hl:x < y
  ·rw[Nat.min_eq_left (by omega),Nat.max_eq_right (by omega),kZ hx hy]
  ·rw[Nat.min_eq_right (by omega),Nat.max_eq_left (by omega),kZ hy hx]
   by_cases h1:i=x
   ·by_cases h2:i=y
    ·omega
    ·rw[if_pos h1,if_neg h2,if_pos h1]
   ·by_cases h2:i=y
    ·rw[if_neg h1,if_pos h2,if_pos h2]
    ·rw[if_neg h1,if_neg h2,if_neg h2,if_neg h1]
 ·show Sn (ZA _ _ _=0) _ _=_
  rw[Hz he];rfl
theorem XQ (w:List Int) (C:List (Int×Int)):∀ (t:List Nat) (x:Nat) (h:List Int),(∀ y∈x::t,y < h.length)→(x::t).Nodup→chn h w (fn h x) x t →
 ∃ h',h'.length=h.length∧(∀ i,fn h' i=if i∈x::t then fn w i else fn h i)∧kW w h (zz (XP (x::t))++C)=kW w h' C
 | [], x, h, _, _, hc => by
  refine⟨h,rfl,λi=>?_,rfl⟩
  have hc:fn w x=fn h x:=hc
  by_cases hi:i=x
  ·subst hi;rw[if_pos (by simp),hc]
  ·rw[if_neg (by simpa using hi)]
 | y :: t, x, h, Un, hnd, hc => by
  obtain⟨c1,c2⟩:=hc
  have hnx:x ∉ y::t:=(List.nodup_cons.1 hnd).1
  have hnd':=(List.nodup_cons.1 hnd).2
  have hny:y ∉ t:=(List.nodup_cons.1 hnd').1
  have hxy:x≠y:=λe=>hnx (by simp[e])
  obtain⟨h1,l1,f1,m1⟩:=oQ w h x y (zz (XP (y::t))++C) (Un x (by simp)) (Un y (by simp)) hxy
  have e1:fn h1 y=fn h x:=by rw[f1,if_pos rfl]
  have hc':chn h1 w (fn h1 y) y t:=by
   rw[e1]
   refine Pn t y (λz hz=>?_) c2
   have z1:¬ z=y:=λe=>hny (e ▸ hz)
   have z2:¬ z=x:=λe=>hnx (by rw[←e];simp[hz])
   rw[f1,if_neg z1,if_neg z2]
  obtain⟨h2,l2,f2,m2⟩:=XQ w C t y h1 (λz hz=>by rw[l1];exact Un z (by simp only[List.mem_cons] at hz ⊢;exact Or.inr hz)) hnd' hc'
  refine⟨h2,by omega,λi=>?_,?_⟩
  ·rw[f2]
   by_cases hi:i∈y::t
   ·rw[if_pos hi,if_pos (List.mem_cons_of_mem _ hi)]
   ·have i1:¬ i=y:=λe=>hi (by simp[e])
    rw[if_neg hi,f1,if_neg i1]
    by_cases hx:i=x
    ·rw[if_pos hx,if_pos (by simp[hx]),hx,c1]
    ·rw[if_neg hx,if_neg (by simp only[List.mem_cons,not_or] at hi ⊢;exact⟨hx,hi⟩)]
  ·rw[←m2,←m1];rfl
theorem lI (h w:List Int) (hw:w.length=h.length) (hr:∀ i,i < h.length→fn h i=fn w i):bv h w=0:=by
 apply Nat.eq_of_testBit_eq
 intro i
 rw[Nat.zero_testBit]
 by_cases hi:i < h.length
 ·have:=hr i hi
  rw[Gv hi,Gv (by omega)] at this
  rw[Nc h w i hi (by omega),this];simp
 ·exact Jw (R3 h w) (by omega)
theorem bJ (h0 w:List Int) (hw:w.length=h0.length):∀ (L:List (List Nat)) (S:Bn) (h:List Int),BI h0.length (fn h0) (fn w) S L→h.length=h0.length →
 (∀ i,i < h0.length→S i=true→fn h i=fn h0 i)→(∀ i,i < h0.length→S i=false→fn h i=fn w i)→kW w h (zz (Qv L))=0
 | [], S, h, hd, hl, _, h2 => by
  have hd:∀ i,i < h0.length→S i=false:=hd
  show K4 h w=0
  unfold K4
  rw[Hz (lI h w (by omega) (λi hi=>h2 i (by omega) (hd i (by omega))))]
 | r :: L, S, h, hd, hl, h1, h2 => by
  obtain⟨f,e,rfl,⟨d1,d2,_⟩,d3,d4⟩:=hd
  have hm:=Jc e _ _ d3
  have hnd:=Kb e _ _ d3
  have hS:∀ i∈e,S i=true∧i≠f:=fun i hi=>by
   have:=(hm i hi).2
   simpa [del] using this
  have hnf:(f::e).Nodup:=List.nodup_cons.2 ⟨λg=>(hS f g).2 rfl,hnd⟩
  have hc:chn h w (fn h f) f e:=by
   rw[h1 f d1 d2]
   exact Pn e f (λy hy=>h1 y (hm y hy).1 (hS y hy).1) (lH e _ _ d3)
  obtain⟨h',l',f',m'⟩:=XQ w (zz (Qv L)) e f h (fun y hy=>by
   rcases List.mem_cons.1 hy with rfl | hy
   ·omega
   ·have:=(hm y hy).1;omega) hnf hc
  have:Qv ((f::e)::L)=XP (f::e)++Qv L:=by unfold Qv;rw[List.flatMap_cons]
  rw[this,AcL,m']
  refine bJ h0 w hw L _ h' d4 (by omega) (λi hi hs=>?_) (λi hi hs=>?_)
  ·have:=(Gu.1 hs)
   rw[f',if_neg this.2,h1 i hi this.1]
  ·rw[f']
   by_cases hi2:i∈f::e
   ·rw[if_pos hi2]
   ·rw[if_neg hi2]
    refine h2 i hi ?_
    cases hsi:S i with
    | false=>rfl
    | true=>rw[Gu.2 ⟨hsi,hi2⟩] at hs;cases hs
theorem lJ {k:Int} {h w:List Int} (ho:Ok k h w) (hc:chk k h w=0):men k h w (zz (Qv (Dn h w)))=0:=by
 unfold men
 rw[Hz hc]
 refine bJ h w ho.len (Dn h w) _ h ho.dv rfl (λ_ _ _=>rfl) (λi hi hs=>?_)
 have hw:=ho.len
 have hs:(bv h w).testBit i=false:=hs
 rw[Nc h w i hi (by omega)] at hs
 rw[Gv hi,Gv (by omega)]
 simpa using hs
theorem AcM {k:Int} {h w:List Int} (ho:Ok k h w):Int.ofNat (Qv (Dn h w)).length=C8 h w:=by
 have h1:=Yk _ _ ho.dv
 have h2:=ho.ln
 unfold C8 Cs
 simp only[Int.ofNat_eq_natCast]
 omega
end Go.MnSM
set_option maxRecDepth 100000
namespace Go.MnSM
open Go.Sp Go.MnS Go.MdM
theorem Ag9 (pu:Af) (n:Nat) (P:List (Nat×Nat)):TV pu n P.length (2*P.length) (pq P)=some (.tuple ⟨[Sl.v 2 (ps P),I 0]⟩):=by
 unfold TV;rw[cZ,Ak,Acz,Ak,Ag0];rfl
theorem AcN (pu:Af) (n:Nat) (ih0:Nat→Nat→Sl→Int→Int→List Value→Option Value) (r:List Nat) (fr:Nat) (A:Sl) (z:Int) (i:Nat) (hr:r.length≤100) (h1:1≤r.length) (hi:i≤100):∀ (f j:Nat) (P:List (Nat×Nat)),r.length - j < f→1≤j→j≤r.length→P.length+r.length≤800+j →
 WB pu n ih0 f P.length (2 * P.length) (sl fr (nI r)) (Int.ofNat j) A z (Int.ofNat i) (pq P) =
  ih0 (P++XP (r.drop (j - 1))).length (2*(P++XP (r.drop (j - 1))).length) A z (Int.ofNat (i+1)) (pq (P++XP (r.drop (j - 1)))):=by
 intro f
 induction f with
 | zero=>intro j P h;omega
 | succ f ih =>
  intro j P hf hj hjl hP
  show WA pu n ih0 (WB pu n ih0 f) _ _ _ _ _ _ _ _=_
  unfold WA
  rw[cZ,Ak,I4,Gp]
  by_cases hlt:j < r.length
  ·obtain⟨m,rfl⟩:∃ m,j=m+1:=⟨j - 1,by omega⟩
   have hm:m < r.length:=by omega
   have hsub:Aj .i64 (Int.sub (Int.ofNat (m+1)) 1)=Int.ofNat m:=by
    have e:Int.sub (Int.ofNat (m+1)) 1=Int.ofNat m:=by show ((m+1:Nat):Int) - 1=((m:Nat):Int);omega
    rw[e]
    exact Oe _ (by show _≤((m:Nat):Int);omega) (by show ((m:Nat):Int)≤_;omega)
   have g1:=Uj 2 16 P.length 1 (pq P) (Pj (by omega) (by omega)) (by omega) (VW P)
   have e1:bb (AY (Int.ofNat r[m+1]) (Int.ofNat r[m])) (Int.ofNat r[m+1]) (Int.ofNat r[m])=Int.ofNat (min r[m] r[m+1]):=by
    rw[sI];simp only[Int.ofNat_eq_natCast];omega
   have e2:bb (AY (Int.ofNat r[m]) (Int.ofNat r[m+1])) (Int.ofNat r[m+1]) (Int.ofNat r[m])=Int.ofNat (max r[m] r[m+1]):=by
    rw[gP];simp only[Int.ofNat_eq_natCast];omega
   rw[FM hlt]
   simp only[Ak,Cx,Ac,hsub,GX,blt_eq,hm,hlt,decide_true,CF,Bool.true_and,BZ,Nat.mul_one,O0 r m hm,O0 r (m+1) hlt,BP,e1,e2,g1,Acy,cZ,DC (m+1) (by omega)]
   have:=ih (m+1+1) (P++[(min r[m] r[m+1],max r[m] r[m+1])]) (by omega) (by omega) (by omega) (by simp;omega)
   rw[List.length_append,List.length_singleton] at this
   have ed:r.drop (m+1 - 1)=r[m]::r[m+1]::r.drop (m+1+1):=by
    rw[Nat.add_sub_cancel,List.drop_eq_getElem_cons hm,List.drop_eq_getElem_cons hlt]
   have ed2:r.drop (m+1+1 - 1)=r[m+1]::r.drop (m+1+1):=by
    rw[Nat.add_sub_cancel,List.drop_eq_getElem_cons hlt]
   rw[ed2] at this
   rw[ed]
   unfold XP
   rw[show P++(min r[m] r[m+1],max r[m] r[m+1])::XP (r[m+1]::r.drop (m+1+1))=P++[(min r[m] r[m+1],max r[m] r[m+1])]++XP (r[m+1]::r.drop (m+1+1)) by simp]
   exact this
  ·have hjr:j=r.length:=by omega
   subst hjr
   rw[FL hlt,AA]
   unfold YC
   have ed:r.drop (r.length - 1)=[r[r.length - 1]]:=by
    rw[List.drop_eq_getElem_cons (by omega),show r.length - 1+1=r.length by omega,List.drop_length]
   rw[cZ,Ak,DC i (by omega),ed]
   unfold XP
   rw[List.append_nil]
theorem l33 (pu:Af) (fo:Nat) (L:List (List Nat)) (hL:L.length≤10) (hr:∀ r∈L,1≤r.length∧r.length≤11):∀ (f i:Nat) (P:List (Nat×Nat)),L.length - i < f→i≤L.length→P.length≤11*i →
 OC pu 1000000 f P.length (2*P.length) (LL fo L) (Int.ofNat L.length) (Int.ofNat i) (pq P)=some (.tuple ⟨[Sl.v 2 (ps (P++Qv (L.drop i))),I 0]⟩):=by
 intro f
 induction f with
 | zero=>intro i P h;omega
 | succ f ih =>
  intro i P hf hi hP
  show WC pu 1000000 (OC pu 1000000 f) _ _ _ _ _ _=_
  unfold WC
  rw[cZ,Ak]
  by_cases hlt:i < L.length
  ·obtain⟨r1,r2⟩:=hr _ (List.getElem_mem hlt)
   rw[FM hlt]
   simp only[Ak,Cx,Ac,LL,blt_eq,hlt,decide_true,CF,Bool.true_and,BZ,Nat.mul_one,PO L i hlt,Dc]
   have q:=AcN pu 1000000 (OC pu 1000000 f) L[i] 0 (LL fo L) (Int.ofNat L.length) i (by omega) r1 (by omega) 1000000 1 P (by omega) (by omega) r1 (by omega)
   have hx:(XP (L[i].drop (1 - 1))).length≤11:=by
    rw[Nat.sub_self,List.drop_zero]
    cases hc:L[i] with
    | nil=>rw[hc] at r1;simp at r1
    | cons x t=>rw[V3];rw[hc] at r2;simp at r2;omega
   have p:=ih (i+1) (P++XP (L[i].drop (1 - 1))) (by omega) (by omega) (by rw[List.length_append];omega)
   rw[p] at q
   refine Eq.trans q ?_
   rw[List.drop_eq_getElem_cons hlt,Nat.sub_self,List.drop_zero]
   unfold Qv
   rw[List.flatMap_cons,List.append_assoc]
  ·have:i=L.length:=by omega
   subst this
   rw[FL hlt,AA,Ag9,List.drop_length]
   unfold Qv
   rw[List.flatMap_nil,List.append_nil]
theorem bK {N:Nat} {H W:Nat→Int} (hN:N≤10):∀ (L:List (List Nat)) (S:Bn),BI N H W S L→∀ r∈L,1≤r.length∧r.length≤11
 | [],_,_,r,hr=>by cases hr
 | a :: L, S, h, r, hr => by
  obtain⟨f,e,rfl,h1,h2,h3⟩:=h
  rcases List.mem_cons.1 hr with rfl | hr
  ·have:=VZ e _ _ h2
   have:=Ji N (del S f)
   rw[List.length_cons];omega
  ·exact bK hN L _ h3 r hr
theorem p33 (n f1 f2:Nat) (k:Int) (h w:List Int) (ho:Ok k h w) (hc:chk k h w=0):FK (n+28) 33 [tr f1 f2 k h w]=some (.tuple ⟨[Sl.v 2 (ps (Qv (Dn h w))),I 0]⟩):=by
 refine Eq.trans (b:=nG (FK (n+27)) 1000000 k (sl f1 h) (sl f2 w)) (by kernel_rfl) ?_
 have e1:=p47 (n+25) f1 f2 k h w
 have hE:=R9 ho.len (K:=k.toNat) (by have:=ho.k1;rw[show ((k.toNat:Nat):Int)=k by omega];exact ho.kk.1) (by have:=ho.k1;rw[show ((k.toNat:Nat):Int)=k by omega];exact ho.kk.2) ho.ev
 have q1:=p48 f1 f2 k h w ho.n10 ho.len ho.kh ho.kw n hE
 unfold tr S at e1 q1
 unfold nG
 rw[e1,Ac,BP,Ac,hc,oO,AA,q1,Ac,Dc,Ac]
 have:=l33 (FK (n+27)) 0 (Dn h w) (by rw[ho.ln];exact Nat.le_trans (bZ _ _ _ _) ho.n10) (bK ho.n10 _ _ ho.dv) 1000000 0 [] (by have:=ho.ln;have:=bZ h.length (fn h) (fn w) (tb (bv h w));have:=ho.n10;omega) (by omega) (by simp)
 rw[List.drop_zero,List.nil_append] at this
 exact this
section
variable (pu:Af) (n:Nat) (k:Int) (s t:Sl) (e12:pu 12 []=some (Value.bool true))
include e12
end
end Go.MnSM
namespace Go.MdV
def occ (v:Int):List Int→Nat→Nat→Nat
 | [],_,i=>i
 | x::h,c,i=>if x=v then (match c with | 0=>i | c+1=>occ v h c (i+1)) else occ v h c (i+1)
def less (a:Int):List Int→Nat
 | []=>0
 | b::l=>(if b < a then 1 else 0)+less a l
def inv:List Int→Nat
 | []=>0
 | a::l=>less a l+inv l
end Go.MdV
set_option maxRecDepth 100000
namespace Go.MnSM
open Go.Sp Go.MnS Go.MdV
section
variable (pu:Af) (n:Nat)
def put (A:Nat→List Int) (K i:Nat):Nat→List Int:=λj=>if j=K then A j++[(i:Int)] else A j
end
section
variable (pu:Af) (n:Nat)
def one (U:Nat→Nat) (K:Nat):Nat→Nat:=λj=>if j=K then U j+1 else U j
end
end Go.MnSM
namespace Go.MdM
variable {N N':Nat} {H W H' W':Nat→Int}
theorem bL (P:Nat→Bn→Bn→Prop)
 (step:∀ c S S',P c S S'→∀ i,i < N→S i=true→(∃ i',i' < N'∧S' i'=true∧P c (del S i) (del S' i'))∨(∃ c',c=c'+1∧P c' (del S i) S'))
 (ev:∀ c S S',P c S S'→Bp N H W S→Bp N' H' W' S'):∀ (k c:Nat) (S S':Bn),card N S≤k→P c S S'→M N H W S≤M N' H' W' S'+c
 | 0,c,S,S',hk,_=>by rw[Kc (by omega)];omega
 | k + 1, c, S, S', hk, hP => by
  by_cases h0:card N S=0
  ·rw[Kc h0];omega
  obtain⟨i,hi,hs,hm⟩:∃ i,i < N∧S i=true∧mx ((els N S).map fun i=>M N H W (del S i))≤M N H W (del S i):=by
   by_cases hz:mx ((els N S).map λi=>M N H W (del S i))=0
   ·have hl:(els N S).length≠0:=by rw[Ha];exact h0
    obtain⟨i,hi⟩:=List.exists_mem_of_length_pos (Nat.pos_of_ne_zero hl)
    exact⟨i,(Fh.1 hi).1,(Fh.1 hi).2,by omega⟩
   ·obtain⟨i,hi,he⟩:=List.mem_map.1 (U0 hz)
    exact⟨i,(Fh.1 hi).1,(Fh.1 hi).2,by omega⟩
  have hc:=Gn hi hs
  rw[VL S h0]
  have ho:=Yc (Bp N H W S)
  rcases step c S S' hP i hi hs with⟨i',hi',hs',hP'⟩|⟨c',rfl,hP'⟩
  ·have h1:=bL P step ev k c _ _ (by omega) hP'
   by_cases he:Bp N H W S
   ·have h2:=gU hi' hs' (ev _ _ _ hP he)
    omega
   ·have h2:=sM (H:=H') (W:=W') hi' hs'
    rw[WZ he];omega
  ·have h1:=bL P step ev k c' _ _ (by omega) hP'
   omega
theorem bM {S:Bn}:Bp N H W S↔((els N S).map H).Perm ((els N S).map W):=by
 have e:∀ (f:Nat→Int) (x:Int),((els N S).map f).count x=cn N S f x:=fun f x=>by
  unfold els cn
  rw[List.count_eq_countP,List.countP_map,List.countP_filter]
  refine List.countP_congr λi _=>?_
  simp only[Function.comp]
  rw[Bool.and_comm]
 rw[List.perm_iff_count]
 unfold Bp
 constructor
 ·intro h x;rw[e,e];exact h x
 ·intro h x;rw[←e,←e];exact h x
structure dA (N N':Nat) (φ:Nat→Nat) (S S':Bn):Prop where
 lt:∀ i,i < N→S i=true→φ i < N'
 inj:∀ i j,i < N→j < N→S i=true→S j=true→φ i=φ j→i=j
 im:∀ j,j < N'→(S' j=true↔∃ i,i < N∧S i=true∧φ i=j)
theorem LX {S:Bn} {i j:Nat}:del S i j=true↔S j=true∧j≠i:=by unfold del;simp
theorem dA.del {φ:Nat→Nat} {S S':Bn} (h:dA N N' φ S S') {i:Nat} (hi:i < N) (hs:S i=true):dA N N' φ (del S i) (del S' (φ i)) where
 lt:=λk hk hd=>h.lt k hk (LX.1 hd).1
 inj:=λa b ha hb h1 h2 e=>h.inj a b ha hb (LX.1 h1).1 (LX.1 h2).1 e
 im:=fun j hj=>by
  rw[LX,h.im j hj]
  constructor
  ·rintro⟨⟨a,ha,hsa,e⟩,hne⟩
   exact⟨a,ha,LX.2 ⟨hsa,λh=>hne (by rw[←e,h])⟩,e⟩
  ·rintro⟨a,ha,hda,e⟩
   obtain⟨hsa,hne⟩:=LX.1 hda
   exact⟨⟨a,ha,hsa,e⟩,λhj=>hne (h.inj a i ha hi hsa hs (by rw[e,hj]))⟩
theorem Uq (S:Bn):(els N S).Nodup:=List.nodup_range.filter _
theorem dA.perm {φ:Nat→Nat} {S S':Bn} (h:dA N N' φ S S'):(els N' S').Perm ((els N S).map φ):=by
 refine(List.perm_ext_iff_of_nodup (Uq S') ?_).2 λj=>?_
 ·unfold List.Nodup
  rw[List.pairwise_map]
  refine List.Pairwise.imp_of_mem ?_ (Uq S)
  intro a b ha hb hne e
  exact hne (h.inj a b (Fh.1 ha).1 (Fh.1 hb).1 (Fh.1 ha).2 (Fh.1 hb).2 e)
 ·rw[Fh,List.mem_map]
  constructor
  ·rintro⟨hj,hs⟩
   obtain⟨i,hi,hsi,e⟩:=(h.im j hj).1 hs
   exact⟨i,Fh.2 ⟨hi,hsi⟩,e⟩
  ·rintro⟨i,hi,e⟩
   obtain⟨hi,hs⟩:=Fh.1 hi
   have hl:=h.lt i hi hs
   rw[e] at hl
   exact⟨hl,(h.im j hl).2 ⟨i,hi,hs,e⟩⟩
theorem dA.card {φ:Nat→Nat} {S S':Bn} (h:dA N N' φ S S'):card N' S'=card N S:=by
 rw[←Ha,←Ha,h.perm.length_eq,List.length_map]
def Goes (N:Nat) (φ:Nat→Nat) (g k:Int→Int) (S:Bn) (H W H' W':Nat→Int):Prop:=∀ i,i < N→S i=true→H' (φ i)=g (H i)∧W' (φ i)=g (W i)∧k (g (H i))=H i∧k (g (W i))=W i
theorem K7 {S:Bn} {f g:Nat→Int} (h:∀ i,i < N→S i=true→f i=g i):(els N S).map f=(els N S).map g:=
 List.map_congr_left λi hi=>h i (Fh.1 hi).1 (Fh.1 hi).2
theorem dA.ev {φ:Nat→Nat} {g k:Int→Int} {S S':Bn} (h:dA N N' φ S S') (hg:Goes N φ g k S H W H' W'):Bp N H W S↔Bp N' H' W' S':=by
 have a1:((els N' S').map H').Perm (((els N S).map H).map g):=by
  refine(h.perm.map H').trans ?_
  rw[List.map_map,List.map_map,K7 (f:=H' ∘ φ) (g:=g ∘ H) λi hi hs=>(hg i hi hs).1]
 have a2:((els N' S').map W').Perm (((els N S).map W).map g):=by
  refine(h.perm.map W').trans ?_
  rw[List.map_map,List.map_map,K7 (f:=W' ∘ φ) (g:=g ∘ W) λi hi hs=>(hg i hi hs).2.1]
 have b1:(((els N S).map H).map g).map k=(els N S).map H:=by
  rw[List.map_map,List.map_map];exact K7 λi hi hs=>(hg i hi hs).2.2.1
 have b2:(((els N S).map W).map g).map k=(els N S).map W:=by
  rw[List.map_map,List.map_map];exact K7 λi hi hs=>(hg i hi hs).2.2.2
 rw[bM,bM]
 constructor
 ·intro he
  exact a1.trans ((he.map g).trans a2.symm)
 ·intro he
  have:=(a1.symm.trans (he.trans a2)).map k
  rwa [b1,b2] at this
theorem Goes.del {φ:Nat→Nat} {g k:Int→Int} {S:Bn} (h:Goes N φ g k S H W H' W') (i:Nat):Goes N φ g k (del S i) H W H' W':=λa ha hd=>h a ha (LX.1 hd).1
theorem Aha {φ:Nat→Nat} {g k:Int→Int} {S S':Bn} (h:dA N N' φ S S') (hg:Goes N φ g k S H W H' W'):M N' H' W' S'=M N H W S:=by
 have h1 := bL (N := N) (N' := N') (H := H) (W := W) (H' := H') (W' := W') (fun c S S' => c = 0 ∧ dA N N' φ S S' ∧ Goes N φ g k S H W H' W')
  (λc S S' hP i hi hs=>.inl ⟨φ i,hP.2.1.lt i hi hs,(hP.2.1.im _ (hP.2.1.lt i hi hs)).2 ⟨i,hi,hs,rfl⟩,hP.1,hP.2.1.del hi hs,hP.2.2.del i⟩)
  (λc S S' hP he=>(hP.2.1.ev hP.2.2).1 he) _ 0 S S' (Nat.le_refl _) ⟨rfl,h,hg⟩
 have h2 := bL (N := N') (N' := N) (H := H') (W := W') (H' := H) (W' := W) (fun c S' S => c = 0 ∧ dA N N' φ S S' ∧ Goes N φ g k S H W H' W')
  (fun c S' S hP j hj hs => by
    obtain⟨i,hi,hsi,rfl⟩:=(hP.2.1.im j hj).1 hs
    exact .inl ⟨i,hi,hsi,hP.1,hP.2.1.del hi hsi,hP.2.2.del i⟩)
  (λc S' S hP he=>(hP.2.1.ev hP.2.2).2 he) _ 0 S' S (Nat.le_refl _) ⟨rfl,h,hg⟩
 omega
theorem b1:∀ a b c:Bool,((a && b) && !c)=((a && !c) && b):=by decide
theorem b2:∀ a b c:Bool,((a && !b) && !c)=((a && !c) && !b):=by decide
end Go.MdM
set_option maxRecDepth 100000
namespace Go.MnSM
open Go.Sp Go.MnS Go.MdM
def QB (h w:List Int):Bn:=λi=>!(fn h i == fn w i)
theorem lK {h w:List Int} (hl:w.length=h.length):∀ i,i < h.length→tb (bv h w) i=QB h w i:=fun i hi=>by
 unfold QB
 rw[Gv hi,Gv (by omega:i < w.length)]
 exact Nc h w i hi (by omega)
theorem Yl {h w:List Int} (hl:w.length=h.length):C8 h w=Int.ofNat (card h.length (QB h w)) - Int.ofNat (M h.length (fn h) (fn w) (QB h w)):=by
 unfold C8 Cs
 rw[Hy (lK hl),Kg (lK hl)]
theorem Ahb {h w T U:List Int} (hl:w.length=h.length) (hl2:U.length=T.length) (hc:card T.length (QB T U)=card h.length (QB h w)) (hm:M T.length (fn T) (fn U) (QB T U)=M h.length (fn h) (fn w) (QB h w)):C8 T U=C8 h w:=by
 rw[Yl hl,Yl hl2,hc,hm]
structure XR (h w T U:List Int) (φ:Nat→Nat) (g k:Int→Int):Prop where
 lt:∀ i,i < h.length→φ i < T.length
 inj:∀ i j,i < h.length→j < h.length→φ i=φ j→i=j
 hT:∀ i,i < h.length→fn T (φ i)=g (fn h i)
 hU:∀ i,i < h.length→fn U (φ i)=g (fn w i)
 kh:∀ i,i < h.length→k (g (fn h i))=fn h i
 kw:∀ i,i < h.length→k (g (fn w i))=fn w i
 rest:∀ j,j < T.length→(∀ i,i < h.length→φ i≠j)→fn T j=fn U j
theorem XR.emb {h w T U:List Int} {φ:Nat→Nat} {g k:Int→Int} (L:XR h w T U φ g k):dA h.length T.length φ (QB h w) (QB T U) where
 lt:=λi hi _=>L.lt i hi
 inj:=λi j hi hj _ _ e=>L.inj i j hi hj e
 im:=fun j hj=>by
  constructor
  ·intro hw
   apply Classical.byContradiction
   intro hn
   by_cases he:∃ i,i < h.length∧φ i=j
   ·obtain⟨i,hi,rfl⟩:=he
    refine hn ⟨i,hi,?_,rfl⟩
    unfold QB at hw ⊢
    rw[L.hT i hi,L.hU i hi] at hw
    simp only[Bool.not_eq_true',beq_eq_false_iff_ne,ne_eq] at hw ⊢
    exact λe=>hw (by rw[e])
   ·have:=L.rest j hj λi hi e=>he ⟨i,hi,e⟩
    unfold QB at hw
    simp[this] at hw
  ·rintro⟨i,hi,hs,rfl⟩
   unfold QB at hs ⊢
   rw[L.hT i hi,L.hU i hi]
   simp only[Bool.not_eq_true',beq_eq_false_iff_ne,ne_eq] at hs ⊢
   intro e
   have:=congrArg k e
   rw[L.kh i hi,L.kw i hi] at this
   exact hs this
theorem XR.goes {h w T U:List Int} {φ:Nat→Nat} {g k:Int→Int} (L:XR h w T U φ g k) (S:Bn):Goes h.length φ g k S (fn h) (fn w) (fn T) (fn U):=λi hi _=>⟨L.hT i hi,L.hU i hi,L.kh i hi,L.kw i hi⟩
theorem XR.M {h w T U:List Int} {φ:Nat→Nat} {g k:Int→Int} (L:XR h w T U φ g k):M T.length (fn T) (fn U) (QB T U)=M h.length (fn h) (fn w) (QB h w):=Aha L.emb (L.goes _)
theorem XR.C8 {h w T U:List Int} {φ:Nat→Nat} {g k:Int→Int} (L:XR h w T U φ g k) (hl:w.length=h.length) (hl2:U.length=T.length):C8 T U=C8 h w:=Ahb hl hl2 L.emb.card L.M
structure Ng (K:Nat) (h w:List Int):Prop where
 k1:1≤K
 k5:K≤5
 n1:1≤h.length
 n10:h.length≤10
 len:w.length=h.length
 ih:OO K h
 iw:OO K w
 cnt:∀ v,h.count v=w.count v
theorem Ng.chk {K:Nat} {h w:List Int} (t:Ng K h w):chk K h w=0:=by
 unfold MnSM.chk
 have e:evn (K:Int).toNat h w:=λx _=>t.cnt x
 rw[Hz ⟨by have:=t.k1;omega,by have:=t.k5;omega⟩,I8 (by have:=t.n1;omega),I8 (by have:=t.n10;omega),Hz t.len,Hz ⟨t.ih,t.iw⟩,Hz e]
theorem Ng.ok {K:Nat} {h w:List Int} (t:Ng K h w):Ok K h w:=ZN t.chk
theorem Ng.map {K:Nat} {h w:List Int} (t:Ng K h w) {g:Int→Int} (hg:∀ x:Int,0≤x∧x < K→0≤g x∧g x < K):Ng K (h.map g) (w.map g) where
 k1:=t.k1
 k5:=t.k5
 n1:=by rw[List.length_map];exact t.n1
 n10:=by rw[List.length_map];exact t.n10
 len:=by rw[List.length_map,List.length_map];exact t.len
 ih:=λx hx=>by obtain⟨y,hy,rfl⟩:=List.mem_map.1 hx;exact hg y (t.ih y hy)
 iw:=λx hx=>by obtain⟨y,hy,rfl⟩:=List.mem_map.1 hx;exact hg y (t.iw y hy)
 cnt:=λv=>((List.perm_iff_count.2 t.cnt).map g).count_eq v
theorem Qq {l:List Int} {r:Nat} (hr:r < l.length) (v:Int):l.count v=(l.eraseIdx r).count v+if l[r]=v then 1 else 0:=by
 have e:=List.take_append_drop r l
 rw[List.drop_eq_getElem_cons hr] at e
 have e2:l.count v=(l.take r++l[r]::l.drop (r+1)).count v:=by rw[e]
 rw[e2,List.eraseIdx_eq_take_drop_succ,List.count_append,List.count_append,List.count_cons]
 simp
 omega
theorem Ng.erase {K:Nat} {h w:List Int} (t:Ng K h w) {r:Nat} (hr:r < h.length) (he:fn h r=fn w r) (h2:1 < h.length):Ng K (h.eraseIdx r) (w.eraseIdx r) where
 k1:=t.k1
 k5:=t.k5
 n1:=by rw[List.length_eraseIdx,if_pos hr];omega
 n10:=by rw[List.length_eraseIdx,if_pos hr];have:=t.n10;omega
 len:=by have:=t.len;rw[List.length_eraseIdx,List.length_eraseIdx,if_pos hr,if_pos (by omega)];omega
 ih:=λx hx=>t.ih x (List.mem_of_mem_eraseIdx hx)
 iw:=λx hx=>t.iw x (List.mem_of_mem_eraseIdx hx)
 cnt:=fun v=>by
  have hw:r < w.length:=by have:=t.len;omega
  have e1:=Qq hr v
  have e2:=Qq hw v
  rw[Gv hr,Gv hw] at he
  have:=t.cnt v
  rw[he] at e1
  omega
end Go.MnSM
set_option maxRecDepth 100000
set_option maxHeartbeats 4000000
namespace Go.MnSM
open Go.Sp Go.MnS Go.MdM Go.MdV
theorem q16 (k:Nat) (args:List Value):FK (k+1) 16 args=m16 (FK k) L args:=by kernel_rfl
theorem Aiy (pu:Af) (fl fl':Nat) (k:Int) (h w:List Int):m16 pu L [tr fl fl' k h w]=mM pu L k (sl fl h) (sl fl' w):=by kernel_rfl
theorem nt0:nt (Bd (0:Int) 0)=false:=rfl
theorem p16 (n fl fl':Nat) {K:Nat} {h w:List Int} (t:Ng K h w):FK (n+30) 16 [tr fl fl' K h w]=some (.tuple ⟨[Sl.v 1 (LL 0 (Dn h w)),I 0]⟩):=by
 rw[q16,Aiy]
 have o:=t.ok
 have e1:=p47 (n+27) fl fl' K h w
 rw[t.chk] at e1
 have e2:=p48 fl fl' K h w o.n10 o.len o.kh o.kw (n+2) (R9 o.len t.ih t.iw o.ev)
 unfold tr S at e1 e2
 unfold mM
 simp -implicitDefEqProofs only [e1,e2,Ac,BP,nt0,AA,Dc]
theorem O6 {y:Int} (h:0≤y∧y < 256) {m:Nat} (hm:0 < m):∃ A,A < m∧Int.tmod (Aj .i64 y) (.ofNat m) = .ofNat A:=by
 obtain⟨a,rfl⟩:=Int.eq_ofNat_of_zero_le h.1
 rw[Oe _ (by omega) (by omega)]
 exact⟨a % m,Nat.mod_lt _ hm,rfl⟩
theorem nz {m:Nat} (hm:0 < m):nt (Bd (Int.ofNat m) 0)=true:=by
 have:Bd (Int.ofNat m) 0=false:=by rw[Lr];simp;omega
 rw[this];rfl
theorem dQ (l:List Int):Au Ah (l.map I)=true:=by rw[Bh,kL]
theorem sZ (l:List Int) (x:Int):Br (Am 0 (l.map I)) [I x]=(l++[x]).map I:=by simp
theorem ltn {a b:Nat} (h:a < b):an (Nat.blt a b) true=true:=by rw[CF,blt_eq,decide_eq_true h];rfl
theorem lL {a:Nat} (h:a≠0):Nat.beq a 0=false:=by
 cases a with
 | zero=>exact absurd rfl h
 | succ a=>rfl
section
variable (pu:Af) (m:Nat) (q:List Value) (x:Nat→Int) (hq:∀ i,i < 22→AL q i=some (.int .u8 (x i))) (hc:Au Ah q=true) (hx:∀ i,0≤x i∧x i < 256)
include hq hc hx
theorem Sc {K N:Nat} (hK:0 < K) (hN:N≤9):∀ (d w i:Nat) (W:List Int),i+d=N→d < w→W.length=i→OO K W →
 ∃ W',W'.length=N∧OO K W'∧SK pu m w W.length (2*W.length) (.ofNat N) (.ofNat i) q 0 (.ofNat K) W.length (2*W.length) (W.map I) (W.map I)=SI pu m W'.length (2*W'.length) q 0 (.ofNat K) W'.length (2*W'.length) (W'.map I) (W'.map I)
 | _,0,_,_,_,h,_,_=>by omega
 | 0, w + 1, i, W, hi, _, hW, hk => by
  refine⟨W,by omega,hk,?_⟩
  show QN pu m (SK pu m w) W.length (2*W.length) (.ofNat N) (.ofNat i) q 0 (.ofNat K) W.length (2*W.length) (W.map I) (W.map I)=_
  unfold QN
  rw[hc,dQ,Ak,Ak,Ak,FL (by omega:¬ i < N),AA]
 | d + 1, w + 1, i, W, hi, hw, hW, hk => by
  have h1:i < N:=by omega
  obtain⟨A,hA,eA⟩:=O6 (hx (2+i)) hK
  have hg:AL q (2+i*1)=some (.int .u8 (x (2+i))):=by rw[Nat.mul_one];exact hq _ (by omega)
  have gW:=sJ W (by omega)
  have hget:AL ((W++[Int.ofNat A]).map I) (0+i*1)=some (I (Int.ofNat A)):=by
   rw[BZ,Nat.zero_add,Nat.mul_one,Aja _ i (by simp;omega)]
   simp[←hW]
  obtain⟨W',w1,w2,w3⟩:=Sc hK hN d w (i+1) (W++[Int.ofNat A]) (by omega) (by omega) (by simp[hW]) (fun z hz=>by
   rcases List.mem_append.1 hz with hz | hz
   ·exact hk z hz
   ·rw[List.mem_singleton.1 hz];exact⟨Int.natCast_nonneg A,Int.ofNat_lt.2 hA⟩)
  refine⟨W',w1,w2,?_⟩
  rw[←w3]
  show QN pu m (SK pu m w) W.length (2*W.length) (.ofNat N) (.ofNat i) q 0 (.ofNat K) W.length (2*W.length) (W.map I) (W.map I)=_
  unfold QN
  simp only[hc,dQ,Ak,FM h1,Cx,Ac,show Nat.blt i 10=true from by rw[blt_eq];simp;omega,hg,show Bi .u8 (.int .u8 (x (2+i)))=some (x (2+i)) from rfl,nz hK,eA,gW,sZ,ltn (show i < W.length+1 from by omega),hget,BP,DC i (by omega),AA,Nat.add_zero,List.length_append,List.length_singleton]
theorem XT {K:Nat} (wn wc:Nat) (wq:List Value) (hwq:Au Ah wq=true):∀ (d w i c:Nat) (E H:List Int),E.length=d→d < w→E.length+i≤9→H.length≤i→E.length≤c / 2 →
 ∃ H',(H++E).Perm H'∧SG pu m w E.length c (.ofNat i) q 0 (.ofNat K) H.length (2*H.length) wn wc (E.map I) (H.map I) wq=SF pu m 0 (.ofNat K) H'.length (2*H'.length) wn wc (H'.map I) wq
 | _,0,_,_,_,_,_,h,_,_,_=>by omega
 | 0, w + 1, i, c, E, H, hE, _, _, _, _ => by
  obtain rfl:=List.eq_nil_of_length_eq_zero hE
  refine⟨H,by simp,?_⟩
  show QM pu m (SG pu m w) 0 c (.ofNat i) q 0 (.ofNat K) H.length (2*H.length) wn wc ([].map I) (H.map I) wq=_
  unfold QM
  rw[hc,dQ,hwq,Ak,Ak,dQ,Ak,Ak,show AY 0 (Int.ofNat 0)=false from rfl,AA]
 | d + 1, w + 1, i, c, E, H, hE, hw, hi, hH, hcc => by
  have hn:0 < E.length:=by omega
  obtain⟨kk,hkk,ek⟩:=O6 (hx (12+i)) hn
  have hg:AL q (12+i*1)=some (.int .u8 (x (12+i))):=by rw[Nat.mul_one];exact hq _ (by omega)
  have gH:=sJ H (by omega)
  have hget:AL (E.map I) (kk*1)=some (I E[kk]):=by rw[BZ,Nat.mul_one,Aja E kk hkk]
  have hw1:Aj .i64 (Int.add (Int.ofNat kk) 1)=Int.ofNat (kk+1):=DC kk (by omega)
  have t1:Aq (kk*1) (Am 0 (E.map I))=(E.take kk).map I:=by rw[Cg,Bz,List.drop_zero,Nat.mul_one,List.map_take]
  have t1':Aq (kk*1) ((E.take kk).map I)=(E.take kk).map I:=by rw[Cg,Nat.mul_one,List.take_of_length_le (by simp;omega)]
  have t2:Aq ((E.length - (kk+1))*1) (Am ((kk+1)*1) (E.map I))=(E.drop (kk+1)).map I:=by
   rw[Cg,Bz,Nat.mul_one,Nat.mul_one,List.map_drop,List.take_of_length_le (by simp)]
  have t2':Aq ((E.length - (kk+1))*1) ((E.drop (kk+1)).map I)=(E.drop (kk+1)).map I:=by rw[Cg,Nat.mul_one,List.take_of_length_le (by simp)]
  have hlen:(E.take kk++E.drop (kk+1)).length=E.length - 1:=by simp;omega
  have hperm:(H++E).Perm ((H++[E[kk]])++(E.take kk++E.drop (kk+1))):=by
   have e:E=E.take kk++E[kk]::E.drop (kk+1):=by rw[←List.drop_eq_getElem_cons hkk,List.take_append_drop]
   rw[List.append_assoc]
   refine List.Perm.append_left H ?_
   have:(E.take kk++E[kk]::E.drop (kk+1)).Perm (E[kk]::(E.take kk++E.drop (kk+1))):=List.perm_middle
   rw[←e] at this
   exact this
  have ih:=λc' (h:E.length - 1≤c' / 2)=>XT (K:=K) wn wc wq hwq d w (i+1) c' (E.take kk++E.drop (kk+1)) (H++[E[kk]]) (by omega) (by omega) (by omega) (by simp;omega) (by rw[hlen];exact h)
  have hL:(H++[E[kk]]).length=H.length+1:=by simp
  show ∃ H',_∧QM pu m (SG pu m w) E.length c (.ofNat i) q 0 (.ofNat K) H.length (2*H.length) wn wc (E.map I) (H.map I) wq=_
  unfold QM
  simp only[hc,hwq,dQ,Ak,show AY 0 (Int.ofNat E.length)=true from FM hn,Cx,Ac,show Nat.blt i 10=true from by rw[blt_eq];simp;omega,hg,show Bi .u8 (.int .u8 (x (12+i)))=some (x (12+i)) from rfl,nz hn,ek,ltn hkk,hget,BP,gH,sZ,show Nat.ble kk (c / 2)=true from by rw[ble_eq];simp;omega,hw1,show Nat.ble (kk+1) E.length=true from by rw[ble_eq];simp;omega,show Nat.ble (kk*1) (len (E.map I))=true from by rw[ble_eq,AV];simp;omega,show Nat.ble ((kk+1)*1+(E.length - (kk+1))*1) (len (E.map I))=true from by rw[ble_eq,AV];simp;omega,t1,t2,t1',t2',DC i (by omega),AA,Nat.add_zero,Nat.zero_add]
  by_cases k0:kk=0
  ·by_cases r0:E.length - (kk+1)=0
   ·obtain⟨H',p1,p2⟩:=ih 1 (by omega)
    refine⟨H',hperm.trans p1,?_⟩
    have e0:E.take kk++E.drop (kk+1)=[]:=List.eq_nil_of_length_eq_zero (by omega)
    rw[e0,hL] at p2
    rw[←p2,show Nat.beq kk 0=true from by rw[k0];rfl,show Nat.beq (E.length - (kk+1)) 0=true from by rw[r0];rfl,Ak,Ak]
    rfl
   ·obtain⟨H',p1,p2⟩:=ih (2*(E.length - (kk+1))) (by omega)
    refine⟨H',hperm.trans p1,?_⟩
    rw[hlen,hL] at p2
    have e0:E.take kk=[]:=by rw[k0];rfl
    rw[e0,List.nil_append,show E.length - 1=E.length - (kk+1) from by omega] at p2
    rw[←p2,show Nat.beq kk 0=true from by rw[k0];rfl,lL (show E.length - (kk+1)≠0 from by omega),Ak,AA,K8 (by omega),Ak]
  ·by_cases r0:E.length - (kk+1)=0
   ·obtain⟨H',p1,p2⟩:=ih (2*kk) (by omega)
    refine⟨H',hperm.trans p1,?_⟩
    rw[hlen,hL] at p2
    have e0:E.drop (kk+1)=[]:=List.drop_eq_nil_of_le (by omega)
    rw[e0,List.append_nil,show E.length - 1=kk from by omega] at p2
    rw[←p2,lL (show kk≠0 from by omega),show Nat.beq (E.length - (kk+1)) 0=true from by rw[r0];rfl,Ak,AA,K8 (by omega),Ak,Ak]
   ·obtain⟨H',p1,p2⟩:=ih (2*(kk+(E.length - (kk+1)))) (by omega)
    refine⟨H',hperm.trans p1,?_⟩
    rw[hlen,hL] at p2
    have ea:Br (Am 0 ((E.take kk).map I)) ((E.drop (kk+1)).map I)=(E.take kk++E.drop (kk+1)).map I:=by simp
    have es:Au D6 ((E.drop (kk+1)).map I)=true:=by
     rw[Bh,List.all_eq_true]
     intro v hv
     obtain⟨z,_,rfl⟩:=List.mem_map.1 hv
     rfl
    have hk1:(E.take kk).length=kk:=by simp;omega
    have gg:GV 1 8 kk (2*kk) (E.length - (kk+1)) ((E.take kk).map I)=true:=by
     have:=Uj 1 8 kk (E.length - (kk+1)) ((E.take kk).map I) (K8 (by omega)) (by omega) (by simp;omega)
     exact this
    rw[show E.length - 1=kk+(E.length - (kk+1)) from by omega] at p2
    rw[←p2,lL (show kk≠0 from by omega),lL (show E.length - (kk+1)≠0 from by omega),AA,AA,K8 (by omega),Ak,es,gg,show an true true=true from rfl,Ak,ea,dQ,Ak]
end
end Go.MnSM
set_option maxRecDepth 100000
set_option maxHeartbeats 4000000
namespace Go.MnSM
open Go.Sp Go.MnS Go.MdM Go.MdV
theorem q21 (k:Nat) (args:List Value):FK (k+1) 21 args=m21 (FK k) L args:=by kernel_rfl
theorem tC (A:Nat) (hA:A < 1000):Aj .i64 (Int.add 1 (Int.ofNat A))=Int.ofNat (A+1):=by
 have e:Int.add 1 (Int.ofNat A)=((A+1:Nat):Int):=by show (1:Int)+(A:Int)=_;omega
 rw[e];exact Oe _ (by omega) (by omega)
theorem oU (n:Nat) (q:List Value) (x:Nat→Int) (hl:len q=22) (hq:∀ i,i < 22→AL q i=some (.int .u8 (x i))) (hc:Au Ah q=true) (hx:∀ i,0≤x i∧x i < 256) :
 ∃ K h w,FK (n+1) 21 [.agg ⟨q⟩,I 6,I 4]=some (tr 0 0 (K:Nat) h w)∧Ng K h w∧h.length≤6∧K≤4:=by
 rw[q21]
 obtain⟨A,hA,eA⟩:=O6 (hx 1) (show 0 < 6 from by omega)
 obtain⟨B,hB,eB⟩:=O6 (hx 0) (show 0 < 4 from by omega)
 obtain⟨W,w1,w2,w3⟩:=Sc (FK n) L q x hq hc hx (K:=B+1) (N:=A+1) (by omega) (by omega) (A+1) L 0 [] (by omega) (by show _ < 1000000;omega) rfl (λz hz=>by cases hz)
 obtain⟨H,p1,p2⟩:=XT (FK n) L q x hq hc hx (K:=B+1) W.length (2*W.length) (W.map I) (dQ W) W.length L 0 (2*W.length) W [] rfl (by show _ < 1000000;omega) (by omega) (Nat.le_refl _) (by omega)
 rw[List.nil_append] at p1
 have hHl:=p1.length_eq
 refine⟨B+1,H,W,?_,⟨by omega,by omega,by omega,by omega,by omega,λz hz=>w2 z (p1.symm.subset hz),w2,λv=>(p1.count_eq v).symm⟩,by omega,by omega⟩
 have e0:m21 (FK n) L [.agg ⟨q⟩,I 6,I 4]=fQ (FK n) L q 6 4:=by
  show bb (an (Nat.beq (len q) 22) (Au Ah q)) (fQ (FK n) L q 6 4) none=_
  rw[hl,hc];rfl
 rw[e0]
 unfold fQ
 simp only[hc,Ak,hq 0 (by omega),hq 1 (by omega),Ac,show Bi .u8 (.int .u8 (x 0))=some (x 0) from rfl,show Bi .u8 (.int .u8 (x 1))=some (x 1) from rfl,show nt (Bd (4:Int) 0)=true from rfl,show nt (Bd (6:Int) 0)=true from rfl,show (6:Int)=Int.ofNat 6 from rfl,show (4:Int)=Int.ofNat 4 from rfl,eA,eB,tC A (by omega),tC B (by omega)]
 refine Eq.trans w3 ?_
 unfold SI
 rw[hc,dQ,Ak,Ak,Ak]
 refine Eq.trans p2 ?_
 unfold SF
 simp only[dQ,Ak,gQ H H.length rfl,gQ W W.length rfl,show an (Nat.ble (0+H.length*1) (len (H.map I))) true=true from by rw[CF,ble_eq,AV];simp,show an (Nat.ble (0+W.length*1) (len (W.map I))) true=true from by rw[CF,ble_eq,AV];simp]
 rfl
theorem K5 {n:Int} (h:(Lit.int .u8 n).wf=true):0≤n∧n < 256:=by
 simp only[Lit.wf,Bool.and_eq_true,decide_eq_true_eq] at h
 have h1:(0:Int)≤n:=h.1
 have h2:n≤(255:Int):=h.2
 exact⟨h1,by omega⟩
theorem Aiz {l:List Int} (h:∀ z∈l,0≤z∧z < 256) (i:Nat):0≤l.getD i 0∧l.getD i 0 < 256:=by
 rw[List.getD_eq_getElem?_getD]
 cases e:l[i]? with
 | none=>exact⟨by decide,by decide⟩
 | some z=>exact h z (List.mem_of_getElem? e)
end Go.MnSM
namespace Go.MdM
variable {N:Nat} {H W:Nat→Int}
def Pk (N:Nat) (H W:Nat→Int) (S:Bn) (L:List Bn):Prop:=
 L.Pairwise (λA B=>∀ i,i < N→¬ (A i=true∧B i=true))∧∀ D∈L,Pe N D S∧Bp N H W D∧∃ i,i < N∧D i=true
def un (L:List Bn):Bn:=λi=>L.any λD=>D i
theorem bN (D:Bn) (L:List Bn) (i:Nat):un (D::L) i=(D i || un L i):=rfl
theorem OM {L:List Bn} {i:Nat}:un L i=true↔∃ D∈L,D i=true:=by unfold un;rw[List.any_eq_true]
theorem tF {A B:Bn} (ha:Bp N H W A) (hb:Bp N H W B) (hd:∀ i,i < N→¬ (A i=true∧B i=true)):Bp N H W (fun i=>A i || B i):=fun x=>by
 rw[K3 (S:=λi=>A i || B i) (A:=A) (B:=B) H x (λ_ _=>rfl) hd,K3 (S:=λi=>A i || B i) (A:=A) (B:=B) W x (λ_ _=>rfl) hd,ha x,hb x]
theorem bO {S:Bn} (h:∀ i,i < N→S i=false) (f:Nat→Int) (x:Int):cn N S f x=0:=by
 unfold cn
 rw[List.countP_eq_zero]
 intro i hi
 rw[h i (List.mem_range.1 hi)];simp
theorem oV {S:Bn} (h:∀ i,i < N→S i=false):Bp N H W S:=λx=>by rw[bO h,bO h]
theorem V4 {S D:Bn} {L:List Bn} (h:Pk N H W S (D::L)):Pk N H W S L:=⟨(List.pairwise_cons.1 h.1).2,λE hE=>h.2 E (by simp[hE])⟩
theorem bP:∀ {L:List Bn} {S:Bn},Pk N H W S L→Bp N H W (un L)
 | [],_,_=>oV λ_ _=>rfl
 | D :: L, S, h => by
  have ih:=bP (V4 h)
  have hd:∀ i,i < N→¬ (D i=true∧un L i=true):=fun i hi ⟨h1,h2⟩=>by
   obtain⟨E,hE,h3⟩:=OM.1 h2
   exact(List.pairwise_cons.1 h.1).1 E hE i hi ⟨h1,h3⟩
  exact tF (h.2 D (by simp)).2.1 ih hd
theorem V5 {L:List Bn} {S:Bn} (h:Pk N H W S L):Pe N (un L) S:=fun i hi hu=>by
 obtain⟨D,hD,h1⟩:=OM.1 hu
 exact(h.2 D hD).1 i hi h1
theorem Ahd {L:List Bn} {S:Bn} (h:Pk N H W S L):Pk N H W (un L) L:=⟨h.1,λD hD=>⟨λi _ h1=>OM.2 ⟨D,hD,h1⟩,(h.2 D hD).2⟩⟩
theorem Sd:∀ {L:List Bn} {S:Bn},Pk N H W S L→L.length≤M N H W S
 | [],_,_=>Nat.zero_le _
 | D :: L, S, h => by
  have ih:=Sd (Ahd (V4 h))
  obtain⟨i,hi,hD⟩:=(h.2 D (by simp)).2.2
  have hn:un L i=false:=by
   cases hu:un L i with
   | false=>rfl
   | true =>
    obtain⟨E,hE,h3⟩:=OM.1 hu
    exact absurd ⟨hD,h3⟩ ((List.pairwise_cons.1 h.1).1 E hE i hi)
  have h1:=Ph (A:=un L) (B:=un (D::L)) (i:=i) (λj _ hj=>by rw[bN,hj,Bool.or_true]) hi (by rw[bN,hD];rfl) hn (bP h)
  have h2:=(V5 h).M (H:=H) (W:=W)
  simp only[List.length_cons]
  omega
theorem tH:∀ (k:Nat) (S:Bn),card N S≤k→∃ L,Pk N H W S L∧L.length=M N H W S
 | 0,S,h=>⟨[],⟨List.Pairwise.nil,λD hD=>by cases hD⟩,(Kc (by omega)).symm⟩
 | k + 1, S, h => by
  by_cases hc:card N S=0
  ·exact⟨[],⟨List.Pairwise.nil,λD hD=>by cases hD⟩,(Kc hc).symm⟩
  have hM:=VL (H:=H) (W:=W) S hc
  -- a place whose loss costs least
  have hex:∃ i,i < N∧S i=true∧mx ((els N S).map fun i=>M N H W (del S i))=M N H W (del S i):=by
   by_cases h0:mx ((els N S).map λi=>M N H W (del S i))=0
   ·have hl:(els N S).length≠0:=by rw[Ha];exact hc
    obtain⟨i,l,hil⟩:∃ i l,els N S=i::l:=by
     cases he:els N S with
     | nil=>rw[he] at hl;simp at hl
     | cons i l=>exact⟨i,l,rfl⟩
    have hi:i∈els N S:=by rw[hil];simp
    have:=ZC (l:=(els N S).map λi=>M N H W (del S i)) (List.mem_map.2 ⟨i,hi,rfl⟩)
    exact⟨i,(Fh.1 hi).1,(Fh.1 hi).2,by omega⟩
   ·obtain⟨i,hi,e⟩:=List.mem_map.1 (U0 h0)
    exact⟨i,(Fh.1 hi).1,(Fh.1 hi).2,e.symm⟩
  obtain⟨i,hi,hs,e⟩:=hex
  have hcd:=Gn hi hs
  obtain⟨L,hL,hlen⟩:=tH k (del S i) (by omega)
  have hsub:Pe N (del S i) S:=λj _ hj=>by unfold del at hj;simp at hj;exact hj.1
  have hL':Pk N H W S L:=⟨hL.1,λD hD=>⟨λj hj h1=>hsub j hj ((hL.2 D hD).1 j hj h1),(hL.2 D hD).2⟩⟩
  by_cases he:Bp N H W S
  ·rw[WY he] at hM
   have hu:=bP hL
   refine⟨(λj=>S j && !un L j)::L,⟨List.pairwise_cons.2 ⟨λE hE j hj ⟨h1,h2⟩=>?_,hL.1⟩,λD hD=>?_⟩,?_⟩
   ·simp only[Bool.and_eq_true,Bool.not_eq_true'] at h1
    rw[OM.2 ⟨E,hE,h2⟩] at h1;exact absurd h1.2 (by decide)
   ·rcases List.mem_cons.1 hD with rfl | hD
    ·refine⟨λj _ h1=>?_,VM (V5 hL') hu he,i,hi,?_⟩
     ·simp only[Bool.and_eq_true] at h1;exact h1.1
     ·have : un L i = false := by
       cases hq:un L i with
       | false=>rfl
       | true =>
        have:=V5 hL i hi hq
        unfold del at this;simp at this
      show (S i && !un L i)=true
      rw[hs,this];rfl
    ·exact hL'.2 D hD
   ·rw[List.length_cons,hlen,hM,e]
  ·rw[WZ he] at hM
   exact⟨L,hL',by rw[hlen,hM,e];rfl⟩
theorem V6 (S:Bn):∃ L,Pk N H W S L∧L.length=M N H W S:=tH (card N S) S (Nat.le_refl _)
theorem Uw {i:Nat} (hr:H i=W i):Bp N H W (fun j=>j == i):=fun x=>by
 unfold cn
 apply List.countP_congr
 intro j _
 by_cases e:j=i
 ·subst e;rw[hr]
 ·simp[e]
theorem AcO {S:Bn} {i:Nat} (hi:i < N) (hr:H i=W i) (hs:S i=true):Bp N H W S↔Bp N H W (del S i):=by
 constructor
 ·intro h x
  have:=h x
  rw[I9 hi hs,I9 hi hs,hr] at this
  omega
 ·intro h x
  rw[I9 hi hs,I9 hi hs,hr,h x]
theorem oW {S:Bn} {i:Nat} (hi:i < N) (hr:H i=W i) (hs:S i=true):M N H W S=M N H W (del S i)+1:=by
 apply Nat.le_antisymm
 ·obtain⟨L,hL,hlen⟩:=V6 (N:=N) (H:=H) (W:=W) S
  rw[←hlen]
  -- at most one of the sets has the place
  have key:∀ (L:List Bn),Pk N H W S L→∃ L',Pk N H W (del S i) L'∧L.length≤L'.length+1∧(∀ D∈L',∃ E∈L,Pe N D E)∧((∀ D∈L,D i=false)→L.length≤L'.length):=by
   intro L
   induction L with
   | nil=>exact λ_=>⟨[],⟨List.Pairwise.nil,λD hD=>by cases hD⟩,by simp,λD hD=>(by cases hD),λ_=>Nat.le_refl _⟩
   | cons D L ih =>
    intro h
    obtain⟨L',h1,h2,h3,h4⟩:=ih (V4 h)
    have hp:=(List.pairwise_cons.1 h.1).1
    obtain⟨hDs,hDe,j,hj,hDj⟩:=h.2 D (by simp)
    have hdis:∀ A:Bn,Pe N A D→∀ E∈L',∀ k,k < N→¬ (A k=true∧E k=true):=fun A hA E hE k hk ⟨q1,q2⟩=>by
     obtain⟨E2,hE2,hs2⟩:=h3 E hE
     exact hp E2 hE2 k hk ⟨hA k hk q1,hs2 k hk q2⟩
    have h3':∀ E∈L',∃ F∈D::L,Pe N E F:=fun E hE=>by
     obtain⟨F,hF,hs⟩:=h3 E hE
     exact⟨F,by simp[hF],hs⟩
    cases hDi:D i with
    | false =>
     refine⟨D::L',⟨List.pairwise_cons.2 ⟨hdis D (λ_ _ h=>h),h1.1⟩,λE hE=>?_⟩,by simp;omega,λE hE=>?_,λhall=>?_⟩
     ·rcases List.mem_cons.1 hE with rfl | hE
      ·refine⟨λk hk h5=>?_,hDe,j,hj,hDj⟩
       unfold del
       rw[hDs k hk h5]
       by_cases e:k=i
       ·subst e;rw[hDi] at h5;cases h5
       ·simp[e]
      ·exact h1.2 E hE
     ·rcases List.mem_cons.1 hE with rfl | hE
      ·exact⟨E,by simp,λ_ _ h=>h⟩
      ·exact h3' E hE
     ·have:=h4 λE hE=>hall E (by simp[hE])
      simp;exact this
    | true =>
     have hrest:∀ E∈L,E i=false:=fun E hE=>by
      cases q:E i with
      | false=>rfl
      | true=>exact absurd ⟨hDi,q⟩ (hp E hE i hi)
     have h5:=h4 hrest
     exact⟨L',h1,by simp;omega,h3',λhall=>by rw[hall D (by simp)] at hDi;cases hDi⟩
  obtain⟨L',h1,h2,_,_⟩:=key L hL
  have:=Sd h1
  omega
 ·obtain⟨L,hL,hlen⟩:=V6 (N:=N) (H:=H) (W:=W) (del S i)
  have hnew:Pk N H W S ((fun j=>j == i)::L):=by
   refine⟨List.pairwise_cons.2 ⟨λE hE j hj ⟨q1,q2⟩=>?_,hL.1⟩,λD hD=>?_⟩
   ·have e:j=i:=by simpa using q1
    subst e
    have:=(hL.2 E hE).1 j hj q2
    unfold del at this;simp at this
   ·rcases List.mem_cons.1 hD with rfl | hD
    ·exact⟨λj _ q=>by have e:j=i:=(by simpa using q);subst e;exact hs,Uw hr,i,hi,by simp⟩
    ·exact⟨λj hj q=>by have:=(hL.2 D hD).1 j hj q;unfold del at this;simp at this;exact this.1,(hL.2 D hD).2⟩
  have:=Sd hnew
  rw[List.length_cons,hlen] at this
  exact this
def Qt (f:Nat→Int) (a b:Nat):Nat→Int:=λi=>if i=a then f b else if i=b then f a else f i
theorem bQ (f:Nat→Int) (a b:Nat):Qt (Qt f a b) a b=f:=by
 funext i
 unfold Qt
 by_cases h1:i=a
 ·subst h1
  rw[if_pos rfl]
  by_cases h2:b=i
  ·subst h2;simp
  ·rw[if_neg h2,if_pos rfl]
 ·rw[if_neg h1]
  by_cases h2:i=b
  ·subst h2;simp
  ·rw[if_neg h2,if_neg h1,if_neg h2]
theorem lM {S:Bn} {f g:Nat→Int} (h:∀ i,i < N→S i=true→f i=g i) (x:Int):cn N S f x=cn N S g x:=by
 unfold cn
 apply List.countP_congr
 intro i hi
 by_cases hs:S i=true
 ·rw[h i (List.mem_range.1 hi) hs]
 ·simp[hs]
theorem lN {S:Bn} {a b:Nat} (ha:a < N) (hb:b < N) (hab:a≠b) (hsa:S a=true) (hsb:S b=true) (f:Nat→Int) (x:Int):cn N S (Qt f a b) x=cn N S f x:=by
 have hsb':del S a b=true:=by unfold del;rw[hsb];simp;exact λe=>hab e.symm
 rw[I9 ha hsa,I9 hb hsb',I9 ha hsa f,I9 hb hsb' f]
 rw[lM (S:=del (del S a) b) (f:=Qt f a b) (g:=f) fun i _ hi=>by
  unfold del at hi;simp at hi
  unfold Qt;rw[if_neg hi.1.2,if_neg hi.2]]
 have e1:Qt f a b a=f b:=by unfold Qt;rw[if_pos rfl]
 have e2:Qt f a b b=f a:=by unfold Qt;rw[if_neg (λe=>hab e.symm),if_pos rfl]
 rw[e1,e2];omega
theorem V8 {S:Bn} {a b:Nat} (ha:a < N) (hb:b < N) (hab:a≠b) (h:(S a=true∧S b=true)∨(S a=false∧S b=false)) (he:Bp N H W S):Bp N (Qt H a b) W S:=fun x=>by
 rw[←he x]
 rcases h with⟨h1,h2⟩|⟨h1,h2⟩
 ·exact lN ha hb hab h1 h2 H x
 ·apply lM
  intro i _ hi
  unfold Qt
  rw[if_neg (λe=>by subst e;rw[h1] at hi;cases hi),if_neg (λe=>by subst e;rw[h2] at hi;cases hi)]
theorem Po {S:Bn} {L:List Bn} (h:Pk N H W S L) (q:Bn→Bool):Pk N H W S (L.filter q):=⟨h.1.filter q,λD hD=>h.2 D (List.mem_filter.1 hD).1⟩
theorem one_has {L:List Bn} {S:Bn} (h:Pk N H W S L) {i:Nat} (hi:i < N):(L.filter fun D=>D i).length≤1:=by
 have:=(Po h λD=>D i)
 cases hl:L.filter (λD=>D i) with
 | nil=>simp
 | cons A L1 =>
  cases L1 with
  | nil=>simp
  | cons B L2 =>
   rw[hl] at this
   have hA:A i=true:=(List.mem_filter.1 (show A∈L.filter (λD=>D i) by rw[hl];simp)).2
   have hB:B i=true:=(List.mem_filter.1 (show B∈L.filter (λD=>D i) by rw[hl];simp)).2
   exact absurd ⟨hA,hB⟩ ((List.pairwise_cons.1 this.1).1 B (by simp) i hi)
theorem Ux (L:List Bn) (q:Bn→Bool):L.length=(L.filter q).length+(L.filter fun D=>!q D).length:=by
 induction L with
 | nil=>rfl
 | cons A L ih =>
  simp only[List.filter_cons,List.length_cons]
  cases q A <;> simp <;> omega
theorem tJ {a b:Nat} (ha:a < N) (hb:b < N) (hab:a≠b) (S:Bn) (hsa:S a=true) (hsb:S b=true):M N H W S≤M N (Qt H a b) W S+1:=by
 obtain⟨L,hL,hlen⟩:=V6 (N:=N) (H:=H) (W:=W) S
 -- the sets with neither
 have h0:=Po hL λD=>!(D a || D b)
 have hn:Pk N (Qt H a b) W S (L.filter fun D=>!(D a || D b)):=⟨h0.1,fun D hD=>by
  obtain⟨q1,q2,q3⟩:=h0.2 D hD
  have:=(List.mem_filter.1 hD).2
  simp at this
  exact⟨q1,V8 ha hb hab (.inr this) q2,q3⟩⟩
 have hs:=Ux L λD=>D a || D b
 have hA:=one_has hL ha
 have hB:=one_has hL hb
 have hsum:(L.filter fun D=>D a || D b).length≤(L.filter fun D=>D a).length+(L.filter fun D=>D b).length:=by
  clear hL hlen h0 hn hs hA hB
  induction L with
  | nil=>exact Nat.zero_le _
  | cons A L ih =>
   simp only[List.filter_cons]
   cases A a <;> cases A b <;> simp <;> omega
 have hle:=Sd hn
 by_cases h2:(L.filter λD=>D a || D b).length≤1
 ·omega
 ·-- two sets: together they are even
  have eA:(L.filter λD=>D a).length=1:=by omega
  have eB:(L.filter λD=>D b).length=1:=by omega
  obtain⟨A,hA1⟩:=List.length_eq_one_iff.1 eA
  obtain⟨B,hB1⟩:=List.length_eq_one_iff.1 eB
  have mA:A∈L∧A a=true:=List.mem_filter.1 (show A∈L.filter (λD=>D a) by rw[hA1];simp)
  have mB:B∈L∧B b=true:=List.mem_filter.1 (show B∈L.filter (λD=>D b) by rw[hB1];simp)
  have hun:∀ (L:List Bn),Pk N H W S L→A∈L→B∈L→(∀ i,i < N→¬ (A i=true∧B i=true))∨A=B:=by
   intro L hL hA hB
   by_cases e:A=B
   ·exact .inr e
   ·left
    have:=hL.1
    clear hL
    induction L with
    | nil=>cases hA
    | cons C L ih =>
     obtain⟨p1,p2⟩:=List.pairwise_cons.1 this
     rcases List.mem_cons.1 hA with rfl | hA' <;> rcases List.mem_cons.1 hB with rfl | hB'
     ·exact absurd rfl e
     ·exact p1 B hB'
     ·exact λi hi ⟨h1,h2⟩=>p1 A hA' i hi ⟨h2,h1⟩
     ·exact ih hA' hB' p2
  have hdis:∀ i,i < N→¬ (A i=true∧B i=true):=by
   rcases hun L hL mA.1 mB.1 with h | h
   ·exact h
   ·exfalso
    subst h
    -- one set has both: then the first count is 1
    apply h2
    have:∀ D∈L,(D a || D b)=true→D a=true:=fun D hD h=>by
     cases hDa:D a with
     | true=>rfl
     | false =>
      rw[hDa,Bool.false_or] at h
      have hDm:D∈L.filter (λD=>D b):=List.mem_filter.2 ⟨hD,h⟩
      rw[hB1] at hDm
      rw[List.mem_singleton.1 hDm,mA.2] at hDa;cases hDa
    have e:(L.filter fun D=>D a || D b)=L.filter fun D=>D a:=by
     apply List.filter_congr
     intro D hD
     cases hDa:D a with
     | true=>rfl
     | false =>
      cases hDb:D b with
      | false=>rfl
      | true=>have:=this D hD (by rw[hDb,Bool.or_true]);rw[hDa] at this;cases this
    rw[e,eA];exact Nat.le_refl _
  obtain⟨sA,vA,iA,hiA,tA⟩:=hL.2 A mA.1
  obtain⟨sB,vB,_⟩:=hL.2 B mB.1
  have hnew:Pk N (Qt H a b) W S ((fun i=>A i || B i)::L.filter fun D=>!(D a || D b)):=by
   refine⟨List.pairwise_cons.2 ⟨λE hE i hi ⟨q1,q2⟩=>?_,hn.1⟩,λD hD=>?_⟩
   ·obtain⟨mE,nE⟩:=List.mem_filter.1 hE
    simp at nE
    have hne:∀ C∈L,(∃ x,C x=true∧E x=false)→∀ j,j < N→¬ (C j=true∧E j=true):=fun C hC hx=>by
     intro j hj ⟨w1,w2⟩
     obtain⟨x,x1,x2⟩:=hx
     have hCE:C≠E:=λe=>by subst e;rw[x1] at x2;cases x2
     have hp:=hL.1
     have:∀ (L:List Bn),L.Pairwise (fun A B=>∀ i,i < N→¬ (A i=true∧B i=true))→C∈L→E∈L→False:=by
      intro L
      induction L with
      | nil=>intro _ h;cases h
      | cons F L ih =>
       intro hp h1 h2
       obtain⟨p1,p2⟩:=List.pairwise_cons.1 hp
       rcases List.mem_cons.1 h1 with rfl | h1' <;> rcases List.mem_cons.1 h2 with rfl | h2'
       ·exact hCE rfl
       ·exact p1 E h2' j hj ⟨w1,w2⟩
       ·exact p1 C h1' j hj ⟨w2,w1⟩
       ·exact ih p2 h1' h2'
     exact this L hp hC mE
    simp only[Bool.or_eq_true] at q1
    rcases q1 with q1 | q1
    ·exact hne A mA.1 ⟨a,mA.2,nE.1⟩ i hi ⟨q1,q2⟩
    ·exact hne B mB.1 ⟨b,mB.2,nE.2⟩ i hi ⟨q1,q2⟩
   ·rcases List.mem_cons.1 hD with rfl | hD
    ·refine⟨λi hi h=>?_,V8 ha hb hab (.inl ⟨by rw[mA.2];rfl,by rw[mB.2,Bool.or_true]⟩) (tF vA vB hdis),iA,hiA,by show (A iA || B iA)=true;rw[tA];rfl⟩
     simp only[Bool.or_eq_true] at h
     rcases h with h | h
     ·exact sA i hi h
     ·exact sB i hi h
    ·exact hn.2 D hD
  have:=Sd hnew
  rw[List.length_cons] at this
  omega
theorem XU {a b:Nat} (ha:a < N) (hb:b < N) (hab:a≠b) (S:Bn) (hsa:S a=true) (hsb:S b=true):M N (Qt H a b) W S≤M N H W S+1:=by
 have:=tJ (H:=Qt H a b) (W:=W) ha hb hab S hsa hsb
 rwa [bQ] at this
theorem AcP {S:Bn} (he:Bp N H W S) {w:Nat} (hw:w < N) (hs:S w=true) (hne:H w≠W w):∃ b,b < N∧b≠w∧S b=true∧M N (Qt H w b) W S=M N H W S+1:=by
 obtain⟨L,hL,hlen⟩:=V6 (N:=N) (H:=H) (W:=W) S
 have hu:=bP hL
 -- every place is in a set
 have hall:un L w=true:=by
  cases hq:un L w with
  | true=>rfl
  | false =>
   have hnew:Pk N H W S ((fun j=>S j && !un L j)::L):=by
    refine⟨List.pairwise_cons.2 ⟨λE hE j hj ⟨h1,h2⟩=>?_,hL.1⟩,λD hD=>?_⟩
    ·simp only[Bool.and_eq_true,Bool.not_eq_true'] at h1
     rw[OM.2 ⟨E,hE,h2⟩] at h1;exact absurd h1.2 (by decide)
    ·rcases List.mem_cons.1 hD with rfl | hD
     ·refine⟨λj _ h1=>?_,VM (V5 hL) hu he,w,hw,by show (S w && !un L w)=true;rw[hs,hq];rfl⟩
      simp only[Bool.and_eq_true] at h1;exact h1.1
     ·exact hL.2 D hD
   have:=Sd hnew
   rw[List.length_cons] at this
   omega
 obtain⟨D,hD,hDw⟩:=OM.1 hall
 obtain⟨sD,vD,_⟩:=hL.2 D hD
 -- who has what the place wants
 have hc:cn N D H (W w)≠0:=by
  rw[vD (W w),I9 hw hDw,if_pos rfl];omega
 have:∃ b,b < N∧D b=true∧H b=W w:=by
  apply Classical.byContradiction
  intro hno
  apply hc
  unfold cn
  rw[List.countP_eq_zero]
  intro b hb
  simp only[Bool.and_eq_true,beq_iff_eq]
  exact λ⟨q1,q2⟩=>hno ⟨b,List.mem_range.1 hb,q1,q2⟩
 obtain⟨b,hb,hDb,hHb⟩:=this
 have hbw:b≠w:=λe=>hne (by rw[←e] at hne ⊢;rw[e] at hHb ⊢;exact hHb)
 refine⟨b,hb,hbw,sD b hb hDb,Nat.le_antisymm (XU hw hb (λe=>hbw e.symm) S hs (sD b hb hDb)) ?_⟩
 have hr:Qt H w b w=W w:=by unfold Qt;rw[if_pos rfl];exact hHb
 have vD':Bp N (Qt H w b) W D:=V8 hw hb (λe=>hbw e.symm) (.inl ⟨hDw,hDb⟩) vD
 have vD2:=(AcO hw hr hDw).1 vD'
 -- the other sets
 have hother:∀ E∈L,E≠D→E w=false∧E b=false:=fun E hE hne=>by
  have:∀ (L:List Bn),L.Pairwise (fun A B=>∀ i,i < N→¬ (A i=true∧B i=true))→D∈L→E∈L→∀ i,i < N→D i=true→E i=false:=by
   intro L
   induction L with
   | nil=>intro _ h;cases h
   | cons F L ih =>
    intro hp h1 h2 i hi hDi
    obtain⟨p1,p2⟩:=List.pairwise_cons.1 hp
    cases hEi:E i with
    | false=>rfl
    | true =>
     exfalso
     rcases List.mem_cons.1 h1 with rfl | h1' <;> rcases List.mem_cons.1 h2 with rfl | h2'
     ·exact hne rfl
     ·exact p1 E h2' i hi ⟨hDi,hEi⟩
     ·exact p1 D h1' i hi ⟨hEi,hDi⟩
     ·have:=ih p2 h1' h2' i hi hDi;rw[this] at hEi;cases hEi
  exact⟨this L hL.1 hD hE w hw hDw,this L hL.1 hD hE b hb hDb⟩
 have hone:(L.filter fun E=>!(E w)).length+1=L.length:=by
  have h1:=Ux L λE=>E w
  have h2:=one_has hL hw
  have h3:(L.filter fun E=>E w).length≠0:=fun e=>by
   have:=List.length_eq_zero_iff.1 e
   have hm:D∈L.filter (λE=>E w):=List.mem_filter.2 ⟨hD,hDw⟩
   rw[this] at hm;cases hm
  omega
 have hrest:=Po hL λE=>!(E w)
 have hnew:Pk N (Qt H w b) W S ((fun j=>j == w)::del D w::L.filter fun E=>!(E w)):=by
  have hdd:∀ j,del D w j=true→D j=true∧j≠w:=λj h=>by unfold del at h;simpa using h
  refine⟨List.pairwise_cons.2 ⟨λE hE j hj ⟨q1,q2⟩=>?_,List.pairwise_cons.2 ⟨λE hE j hj ⟨q1,q2⟩=>?_,hrest.1⟩⟩,λE hE=>?_⟩
  ·have e:j=w:=by simpa using q1
   subst e
   rcases List.mem_cons.1 hE with rfl | hE
   ·exact(hdd _ q2).2 rfl
   ·have:=(List.mem_filter.1 hE).2
    rw[q2] at this;cases this
  ·obtain⟨hE1,hE2⟩:=List.mem_filter.1 hE
   have hED:E≠D:=λe=>by subst e;rw[hDw] at hE2;cases hE2
   have:∀ (L:List Bn),L.Pairwise (fun A B=>∀ i,i < N→¬ (A i=true∧B i=true))→D∈L→E∈L→False:=by
    intro L
    induction L with
    | nil=>intro _ h;cases h
    | cons F L ih =>
     intro hp h1 h2
     obtain⟨p1,p2⟩:=List.pairwise_cons.1 hp
     rcases List.mem_cons.1 h1 with rfl | h1' <;> rcases List.mem_cons.1 h2 with rfl | h2'
     ·exact hED rfl
     ·exact p1 E h2' j hj ⟨(hdd _ q1).1,q2⟩
     ·exact p1 D h1' j hj ⟨q2,(hdd _ q1).1⟩
     ·exact ih p2 h1' h2'
   exact this L hL.1 hD hE1
  ·rcases List.mem_cons.1 hE with rfl | hE
   ·exact⟨λj _ q=>by have e:j=w:=(by simpa using q);subst e;exact hs,Uw hr,w,hw,by simp⟩
   ·rcases List.mem_cons.1 hE with rfl | hE
    ·exact⟨λj hj q=>sD j hj (hdd j q).1,vD2,b,hb,by unfold del;rw[hDb];simp;exact hbw⟩
    ·obtain⟨hE1,hE2⟩:=List.mem_filter.1 hE
     obtain⟨q1,q2,q3⟩:=hL.2 E hE1
     have hED:E≠D:=λe=>by subst e;rw[hDw] at hE2;cases hE2
     exact⟨q1,V8 hw hb (λe=>hbw e.symm) (.inr (hother E hE1 hED)) q2,q3⟩
 have:=Sd hnew
 simp only[List.length_cons] at this
 omega
theorem Uy:∀ (k:Nat) (S:Bn),card N S≤k→M N H W S≤card N S
 | 0,S,h=>by rw[Kc (by omega)];exact Nat.zero_le _
 | k + 1, S, h => by
  by_cases hc:card N S=0
  ·rw[Kc hc];exact Nat.zero_le _
  rw[VL S hc]
  have h1:=Yc (Bp N H W S)
  have h2:mx ((els N S).map fun i=>M N H W (del S i))≤card N S - 1:=by
   apply sK
   intro a ha
   obtain⟨i,hi,rfl⟩:=List.mem_map.1 ha
   obtain⟨hi,hs⟩:=Fh.1 hi
   have hcd:=Gn hi hs
   have:=Uy k (del S i) (by omega)
   omega
  omega
theorem Ahe (S:Bn):M N H W S≤card N S:=Uy (card N S) S (Nat.le_refl _)
theorem V9 : ∀ (k : Nat) (S : Bn), card N S ≤ k → card N S - M N H W S = card N (fun i => S i && !decide (H i = W i)) - M N H W (fun i => S i && !decide (H i = W i))
 | 0, S, h => by
  have hz:=Jb (N:=N) (S:=S) (by omega)
  have e:∀ i,i < N→(λi=>S i && !decide (H i=W i)) i=S i:=λi hi=>by show (S i && !decide (H i=W i))=S i;rw[hz i hi];rfl
  rw[Hy e,Kg e]
 | k + 1, S, h => by
  by_cases hr:∃ i,i < N∧S i=true∧H i=W i
  ·obtain⟨i,hi,hs,hr⟩:=hr
   have h1:=oW (S:=S) hi hr hs
   have h2:=Gn hi hs
   have ih:=V9 k (del S i) (by omega)
   have e:∀ j,j < N→(fun j=>del S i j && !decide (H j=W j)) j=(fun j=>S j && !decide (H j=W j)) j:=fun j hj=>by
    show ((S j && !(j == i)) && !decide (H j=W j))=(S j && !decide (H j=W j))
    by_cases c:j=i
    ·rw[c,decide_eq_true hr];cases S i <;> simp
    ·have:(j == i)=false:=by simpa using c
     rw[this];cases S j <;> simp
   rw[Hy e,Kg e] at ih
   omega
  ·have e : ∀ i, i < N → (fun i => S i && !decide (H i = W i)) i = S i := fun i hi => by
    show (S i && !decide (H i=W i))=S i
    cases hs:S i with
    | false=>rfl
    | true=>rw[decide_eq_false (λc=>hr ⟨i,hi,hs,c⟩)];rfl
   rw[Hy e,Kg e]
end Go.MdM
namespace Go.Bfs
section
variable {α:Type} [DecidableEq α]
def news:List α→List α→List α
 | L,[]=>L
 | L,x::xs=>news (if x∈L then L else L++[x]) xs
theorem news_ext:∀ (xs L:List α),∃ E,news L xs=L++E∧(∀ z∈E,z∈xs∧z ∉ L)∧E.Nodup
 | [],L=>⟨[],by simp[news],by simp,List.nodup_nil⟩
 | x :: xs, L => by
  by_cases h:x∈L
  ·obtain⟨E,e,h1,h2⟩:=news_ext xs L
   refine⟨E,?_,λz hz=>⟨List.mem_cons_of_mem _ (h1 z hz).1,(h1 z hz).2⟩,h2⟩
   show news (if x∈L then L else L++[x]) xs=_
   rw[if_pos h,e]
  ·obtain⟨E,e,h1,h2⟩:=news_ext xs (L++[x])
   refine⟨x::E,?_,λz hz=>?_,List.nodup_cons.2 ⟨λhx=>(h1 x hx).2 (by simp),h2⟩⟩
   ·show news (if x∈L then L else L++[x]) xs=_
    rw[if_neg h,e];simp
   ·rcases List.mem_cons.1 hz with rfl | hz
    ·exact⟨by simp,h⟩
    ·exact⟨List.mem_cons_of_mem _ (h1 z hz).1,λhL=>(h1 z hz).2 (by simp[hL])⟩
theorem news_has:∀ (xs L:List α),(∀ z∈xs,z∈news L xs)∧∀ z∈L,z∈news L xs
 | [],L=>⟨λz h=>(by cases h),λz h=>h⟩
 | x :: xs, L => by
  obtain⟨h1,h2⟩:=news_has xs (if x∈L then L else L++[x])
  have hL:∀ z∈L,z∈(if x∈L then L else L++[x]):=fun z hz=>by
   split
   ·exact hz
   ·simp[hz]
  refine⟨λz hz=>?_,λz hz=>h2 z (hL z hz)⟩
  rcases List.mem_cons.1 hz with rfl | hz
  ·apply h2
   split
   ·assumption
   ·simp
  ·exact h1 z hz
variable (nb:α→List α) (U:α→Prop) (F:α→Nat) (w:α)
structure World:Prop where
 hw:U w
 h0:F w=0
 hU:∀ x,U x→∀ y∈nb x,U y
 up:∀ x,U x→∀ y∈nb x,F y≤F x+1
 sym:∀ x,U x→∀ y∈nb x,x∈nb y
 dn:∀ x,U x→x≠w→∃ y∈nb x,F y+1=F x
structure Inv (L:List α) (i:Nat):Prop where
 le:i≤L.length
 mem:∀ x∈L,U x
 nd:L.Nodup
 has:w∈L
 done:∀ j (h:j < L.length),j < i→∀ y∈nb L[j],y∈L
 srt:∀ j k (hj:j < L.length) (hk:k < L.length),j≤k→F L[j]≤F L[k]
 top:∀ (h:i < L.length),∀ x∈L,F x≤F L[i]+1
variable {nb U F w}
theorem inv_start (W:World nb U F w):Inv nb U F w [w] 0:=
 ⟨by simp,fun x hx=>by rw[List.mem_singleton.1 hx];exact W.hw,by simp,by simp,fun j _ h=>by omega,fun j k hj hk _=>by
   have e1:j=0:=by simp at hj;omega
   have e2:k=0:=by simp at hk;omega
   subst e1;subst e2;exact Nat.le_refl _,λ_ x hx=>by rw[List.mem_singleton.1 hx,W.h0];omega⟩
theorem low (W:World nb U F w) {L:List α} {i:Nat} (I:Inv nb U F w L i) (h:i < L.length):∀ (n:Nat) (x:α),F x=n→U x→F x≤F L[i]→x∈L:=by
 intro n
 induction n with
 | zero =>
  intro x hx hU _
  by_cases e:x=w
  ·rw[e];exact I.has
  ·obtain⟨y,_,hy⟩:=W.dn x hU e;omega
 | succ n ih =>
  intro x hx hU hle
  by_cases e:x=w
  ·rw[e];exact I.has
  obtain⟨y,hy,hF⟩:=W.dn x hU e
  have hyL:=ih y (by omega) (W.hU x hU y hy) (by omega)
  obtain⟨j,hj,rfl⟩:=List.getElem_of_mem hyL
  have hji:j < i:=by
   apply Classical.byContradiction
   intro c
   have:=I.srt i j h hj (by omega)
   omega
  exact I.done j hj hji x (W.sym x hU _ hy)
theorem new_val (W:World nb U F w) {L:List α} {i:Nat} (I:Inv nb U F w L i) (h:i < L.length) {z:α} (hz:z∈nb L[i]) (hn:z ∉ L):F z=F L[i]+1:=by
 have hx:=I.mem _ (List.getElem_mem h)
 have h1:=W.up _ hx z hz
 by_cases c:F z≤F L[i]
 ·exact absurd (low W I h (F z) z rfl (W.hU _ hx z hz) c) hn
 ·omega
theorem inv_step (W:World nb U F w) {L:List α} {i:Nat} (I:Inv nb U F w L i) (h:i < L.length):Inv nb U F w (news L (nb L[i])) (i+1):=by
 obtain⟨E,e,h1,h2⟩:=news_ext (nb L[i]) L
 obtain⟨k1,k2⟩:=news_has (nb L[i]) L
 have hx:=I.mem _ (List.getElem_mem h)
 have hE:∀ z∈E,F z=F L[i]+1:=λz hz=>new_val W I h (h1 z hz).1 (h1 z hz).2
 rw[e] at k1 k2 ⊢
 have hget:∀ j (hj:j < (L++E).length),(∃ h:j < L.length,(L++E)[j]=L[j])∨(L.length≤j∧(L++E)[j]∈E):=fun j hj=>by
  by_cases c:j < L.length
  ·exact .inl ⟨c,List.getElem_append_left c⟩
  ·right
   refine⟨by omega,?_⟩
   rw[List.getElem_append_right (by omega)]
   exact List.getElem_mem _
 have htop:∀ x∈L++E,F x≤F L[i]+1:=fun x hx=>by
  rcases List.mem_append.1 hx with hx | hx
  ·exact I.top h x hx
  ·rw[hE x hx];exact Nat.le_refl _
 refine⟨by simp;omega,λx hxm=>?_,?_,by simp[I.has],λj hj hji y hy=>?_,λj k hj hk hjk=>?_,λhi x hxm=>?_⟩
 ·rcases List.mem_append.1 hxm with hxm | hxm
  ·exact I.mem x hxm
  ·exact W.hU _ hx x (h1 x hxm).1
 ·rw[List.nodup_append]
  exact⟨I.nd,h2,λa ha b hb hab=>(h1 b hb).2 (hab ▸ ha)⟩
 ·have hjL:j < L.length:=by omega
  rw[List.getElem_append_left hjL] at hy
  by_cases c:j=i
  ·subst c;exact k1 y hy
  ·exact k2 y (I.done j hjL (by omega) y hy)
 ·rcases hget j hj with⟨a,ea⟩|⟨a,ma⟩
  ·rcases hget k hk with⟨b,eb⟩|⟨b,mb⟩
   ·rw[ea,eb];exact I.srt j k a b hjk
   ·rw[ea,hE _ mb];exact I.top h _ (List.getElem_mem a)
  ·rcases hget k hk with⟨b,eb⟩|⟨b,mb⟩
   ·omega
   ·rw[hE _ ma,hE _ mb];exact Nat.le_refl _
 ·have:=htop x hxm
  rcases hget (i+1) hi with⟨a,ea⟩|⟨a,ma⟩
  ·rw[ea]
   have:=I.srt i (i+1) h a (by omega)
   omega
  ·rw[hE _ ma];omega
theorem inv_end (W:World nb U F w) {L:List α} (I:Inv nb U F w L L.length):∀ (n:Nat) (x:α),F x=n→U x→x∈L:=by
 intro n
 induction n with
 | zero =>
  intro x hx hU
  by_cases e:x=w
  ·rw[e];exact I.has
  ·obtain⟨y,_,hy⟩:=W.dn x hU e;omega
 | succ n ih =>
  intro x hx hU
  by_cases e:x=w
  ·rw[e];exact I.has
  obtain⟨y,hy,hF⟩:=W.dn x hU e
  have hyL:=ih y (by omega) (W.hU x hU y hy)
  obtain⟨j,hj,rfl⟩:=List.getElem_of_mem hyL
  exact I.done j hj hj x (W.sym x hU _ hy)
end
end Go.Bfs
namespace Go.MdM
def al:Bn:=λ_=>true
def fl (l:List Int):Nat→Int:=λi=>l.getD i 0
def sw (l:List Int) (a b:Nat):List Int:=(l.set a (l.getD b 0)).set b (l.getD a 0)
theorem Jd (l:List Int) (a b:Nat):(sw l a b).length=l.length:=by simp[sw]
theorem Uz (r:List Int) (i j:Nat) (v:Int) (hi:i < r.length):(r.set i v).getD j 0=if j=i then v else r.getD j 0:=by
 simp only[List.getD_eq_getElem?_getD,List.getElem?_set]
 by_cases h:i=j
 ·subst h;simp[hi]
 ·have h':¬ j=i:=λe=>h e.symm
  simp[h,h']
theorem Si {l:List Int} {a b:Nat} (ha:a < l.length) (hb:b < l.length) (hab:a≠b):fl (sw l a b)=Qt (fl l) a b:=by
 funext i
 unfold fl sw Qt
 rw[Uz _ _ _ _ (by simpa using hb),Uz _ _ _ _ ha]
 by_cases h1:i=a
 ·subst h1
  rw[if_neg hab,if_pos rfl,if_pos rfl]
 ·rw[if_neg h1,if_neg h1]
theorem Ym {x y:List Int} (h:x.length=y.length) (e:∀ i,i < x.length→fl x i=fl y i):x=y:=by
 apply List.ext_getElem h
 intro j h1 h2
 have:=e j h1
 simp only[fl,List.getD_eq_getElem?_getD,List.getElem?_eq_getElem h1,List.getElem?_eq_getElem h2,Option.getD_some] at this
 exact this
theorem Ahf {l:List Int} {a b:Nat} (ha:a < l.length) (hb:b < l.length) (hab:a≠b):sw (sw l a b) a b=l:=by
 apply Ym (by rw[Jd,Jd])
 intro i _
 rw[Si (by rw[Jd];exact ha) (by rw[Jd];exact hb) hab,Si ha hb hab,bQ]
theorem oZ {l:List Int} {a b:Nat} (ha:a < l.length) (hb:b < l.length) (hab:a≠b):sw l a b=sw l b a:=by
 apply Ym (by rw[Jd,Jd])
 intro i _
 rw[Si ha hb hab,Si hb ha (λe=>hab e.symm)]
 unfold Qt
 by_cases h1:i=a
 ·subst h1
  rw[if_pos rfl,if_neg hab,if_pos rfl]
 ·rw[if_neg h1]
  by_cases h2:i=b
  ·rw[if_pos h2,if_pos h2]
  ·rw[if_neg h2,if_neg h2,if_neg h1]
theorem O7 (N:Nat):card N al=N:=by unfold card al;simp
theorem O8 (x:List Int) (v:Int):cn x.length al (fl x) v=x.count v:=by
 have e:x=(List.range x.length).map (fl x):=by
  apply List.ext_getElem (by simp)
  intro i h1 h2
  simp[fl,List.getD_eq_getElem?_getD,h1]
 unfold cn
 conv=>rhs;rw[e]
 rw[List.count,List.countP_map]
 apply List.countP_congr
 intro i _
 simp[al]
def prs (n:Nat):List (Nat×Nat):=(List.range n).flatMap λa=>((List.range n).drop (a+1)).map λb=>(a,b)
theorem QC {n:Nat} {p:Nat×Nat}:p∈prs n↔p.1 < p.2∧p.2 < n:=by
 unfold prs
 rw[List.mem_flatMap]
 constructor
 ·rintro⟨a,ha,h⟩
  obtain⟨b,hb,rfl⟩:=List.mem_map.1 h
  obtain⟨k,hk,e⟩:=List.getElem_of_mem hb
  simp at e hk
  show a < b∧b < n
  omega
 ·rintro⟨h1,h2⟩
  refine⟨p.1,List.mem_range.2 (by omega),List.mem_map.2 ⟨p.2,?_,rfl⟩⟩
  rw[List.mem_iff_getElem]
  refine⟨p.2 - (p.1+1),by simp;omega,?_⟩
  simp;omega
def nbx (l:List Int):List (List Int):=(prs l.length).map λp=>sw l p.1 p.2
noncomputable def Qu (w x:List Int):Nat:=w.length - M w.length (fl x) (fl w) al
def Pp (w x:List Int):Prop:=x.length=w.length∧∀ v,x.count v=w.count v
theorem AcQ {w x:List Int} (h:Pp w x):Bp w.length (fl x) (fl w) al:=fun v=>by
 rw[O8 w v]
 have:=O8 x v
 rw[h.1] at this
 rw[this,h.2 v]
theorem Wl {w x:List Int} (h:Pp w x) {a b:Nat} (ha:a < x.length) (hb:b < x.length) (hab:a≠b):Pp w (sw x a b):=by
 refine⟨by rw[Jd];exact h.1,λv=>?_⟩
 rw[←O8 (sw x a b) v,Jd,Si ha hb hab,lN ha hb hab rfl rfl,O8,h.2 v]
theorem AcR {w x:List Int} (h:Pp w x) {a b:Nat} (ha:a < x.length) (hb:b < x.length) (hab:a≠b):Qu w (sw x a b)≤Qu w x+1∧Qu w x≤Qu w (sw x a b)+1:=by
 unfold Qu
 rw[h.1] at ha hb
 rw[Si (by rw[h.1];exact ha) (by rw[h.1];exact hb) hab]
 have h1:=tJ (H:=fl x) (W:=fl w) ha hb hab al rfl rfl
 have h2:=XU (H:=fl x) (W:=fl w) ha hb hab al rfl rfl
 omega
theorem lQ (w:List Int):Qu w w=0:=by
 unfold Qu
 have h:=V9 (N:=w.length) (H:=fl w) (W:=fl w) w.length al (by rw[O7];exact Nat.le_refl _)
 rw[O7] at h
 have e:card w.length (λi=>al i && !decide (fl w i=fl w i))=0:=by unfold card;rw[List.countP_eq_zero];intro i _;simp
 omega
theorem lS {w x:List Int} (h:Pp w x) (hne:x≠w):∃ a b,a < b∧b < x.length∧Qu w (sw x a b)+1=Qu w x:=by
 have:∃ i,i < x.length∧fl x i≠fl w i:=Classical.byContradiction λk=>hne (Ym h.1 λi hi=>Classical.byContradiction λk2=>k ⟨i,hi,k2⟩)
 obtain⟨i,hi,hne⟩:=this
 rw[h.1] at hi
 obtain⟨b,hb,hbi,_,hM⟩:=AcP (AcQ h) hi (show al i=true from rfl) hne
 have hle:=Ahe (N:=w.length) (H:=Qt (fl x) i b) (W:=fl w) al
 rw[O7] at hle
 have hib:i≠b:=λe=>hbi e.symm
 have e1:Qu w (sw x i b)+1=Qu w x:=by
  unfold Qu
  rw[Si (by rw[h.1];exact hi) (by rw[h.1];exact hb) hib]
  omega
 rcases Nat.lt_or_gt_of_ne hib with c | c
 ·exact⟨i,b,c,by rw[h.1];exact hb,e1⟩
 ·exact⟨b,i,c,by rw[h.1];exact hi,by rw[←oZ (by rw[h.1];exact hi) (by rw[h.1];exact hb) hib];exact e1⟩
theorem AcS (w:List Int):Bfs.World nbx (Pp w) (Qu w) w where
 hw:=⟨rfl,λ_=>rfl⟩
 h0:=lQ w
 hU:=fun x hx y hy=>by
  obtain⟨p,hp,rfl⟩:=List.mem_map.1 hy
  obtain⟨h1,h2⟩:=QC.1 hp
  exact Wl hx (by omega) h2 (by omega)
 up:=fun x hx y hy=>by
  obtain⟨p,hp,rfl⟩:=List.mem_map.1 hy
  obtain⟨h1,h2⟩:=QC.1 hp
  exact(AcR hx (by omega) h2 (by omega)).1
 sym:=fun x hx y hy=>by
  obtain⟨p,hp,rfl⟩:=List.mem_map.1 hy
  obtain⟨h1,h2⟩:=QC.1 hp
  refine List.mem_map.2 ⟨p,by rw[Jd];exact hp,?_⟩
  exact Ahf (by omega) h2 (by omega)
 dn:=fun x hx hne=>by
  obtain⟨a,b,h1,h2,h3⟩:=lS hx hne
  exact⟨sw x a b,List.mem_map.2 ⟨(a,b),QC.2 ⟨h1,h2⟩,rfl⟩,h3⟩
end Go.MdM
namespace Go.MdM
def occ (v:Int):List Int→Nat→Nat→Nat
 | [],_,i=>i
 | x::h,c,i=>if x=v then (match c with | 0=>i | c+1=>occ v h c (i+1)) else occ v h c (i+1)
def sr (h:List Int):List Int→List Int→List Nat
 | [],_=>[]
 | v::w,pre=>occ v h (pre.count v) 0::sr h w (pre++[v])
end Go.MdM
namespace Go.MdM
theorem tK:∀ (l m:List Nat),l.Nodup→(∀ y∈l,y∈m)→l.length≤m.length
 | [],_,_,_=>Nat.zero_le _
 | a :: l, m, hn, h => by
  obtain⟨h1,h2⟩:=List.nodup_cons.1 hn
  have ha:=h a (by simp)
  have:=tK l (m.erase a) h2 λy hy=>(List.mem_erase_of_ne (λe=>h1 (by rw[←e];exact hy))).2 (h y (by simp[hy]))
  rw[List.length_erase_of_mem ha] at this
  have:=List.length_pos_of_mem ha
  rw[List.length_cons];omega
section
variable {w x:List Int} (h:Pp w x)
include h
end
end Go.MdM
set_option maxRecDepth 100000
namespace Go.MdM
open Go Go.Sp Go.RgP
def Eo:List Int→Nat→Nat
 | [],a=>a
 | x::l,a=>Eo l (8*a+x.toNat)
def X7 (l:List Int):Prop:=∀ x∈l,0≤x∧x < 8
theorem Wm:∀ (l m:List Int) (a b:Nat),l.length=m.length→X7 l→X7 m→Eo l a=Eo m b→l=m∧a=b
 | [],[],_,_,_,_,_,h=>⟨rfl,h⟩
 | [],y::m,_,_,h,_,_,_=>by simp at h
 | x::l,[],_,_,h,_,_,_=>by simp at h
 | x :: l, y :: m, a, b, h, h1, h2, e => by
  obtain⟨rfl,e2⟩:=Wm l m _ _ (by simpa using h) (λz hz=>h1 z (by simp[hz])) (λz hz=>h2 z (by simp[hz])) e
  have hx:=h1 x (by simp)
  have hy:=h2 y (by simp)
  have:x.toNat=y.toNat∧a=b:=by omega
  have hxy:x=y:=by omega
  exact⟨by rw[hxy],this.2⟩
theorem tL:∀ (l:List Int) (a k:Nat),X7 l→a < k→Eo l a < k*8 ^ l.length
 | [],a,k,_,h=>by simpa [Eo] using h
 | x :: l, a, k, h1, h => by
  have hx:=h1 x (by simp)
  have:=tL l (8*a+x.toNat) (8*k) (λz hz=>h1 z (by simp[hz])) (by omega)
  show Eo l (8*a+x.toNat) < k*8 ^ (l.length+1)
  rw[Nat.pow_succ]
  have e:k*(8 ^ l.length*8)=8*k*8 ^ l.length:=by rw[Nat.mul_comm (8 ^ l.length) 8,←Nat.mul_assoc,Nat.mul_comm k 8]
  omega
def OB (F:List Int→Nat) (L:List (List Int)):List (Nat×Nat):=L.map λx=>(Eo x 0,F x)
theorem lT (F:List Int→Nat) (L:List (List Int)) (x:List Int):OB F (L++[x])=OB F L++[(Eo x 0,F x)]:=by unfold OB;simp
theorem bR (F:List Int→Nat) (L:List (List Int)):(OB F L).length=L.length:=by unfold OB;simp
theorem O9 {F:List Int→Nat} {n:Nat} {x:List Int} (hx:x.length=n) (h8:X7 x):∀ (L:List (List Int)),(∀ y∈L,y.length=n∧X7 y)→x∈L→∃ j,place (Eo x 0) (OB F L)=some (j,F x)
 | [],_,h=>by cases h
 | y :: L, hL, h => by
  show ∃ j,(bif Nat.beq (Eo x 0) (Eo y 0) then some (0,F y) else (place (Eo x 0) (OB F L)).map λp=>(p.1+1,p.2))=some (j,F x)
  cases hb:Nat.beq (Eo x 0) (Eo y 0) with
  | true =>
   obtain⟨rfl,_⟩:=Wm x y 0 0 (by rw[hx,(hL y (by simp)).1]) h8 (hL y (by simp)).2 (Nat.eq_of_beq_eq_true hb)
   exact⟨0,rfl⟩
  | false =>
   rcases List.mem_cons.1 h with rfl | h
   ·rw[Nat.beq_refl] at hb;cases hb
   ·obtain⟨j,e⟩:=O9 hx h8 L (λz hz=>hL z (by simp[hz])) h
    rw[e];exact⟨j+1,rfl⟩
theorem UA {F:List Int→Nat} {n:Nat} {x:List Int} (hx:x.length=n) (h8:X7 x):∀ (L:List (List Int)),(∀ y∈L,y.length=n∧X7 y)→x ∉ L→place (Eo x 0) (OB F L)=none
 | [],_,_=>rfl
 | y :: L, hL, h => by
  show (bif Nat.beq (Eo x 0) (Eo y 0) then some (0,F y) else (place (Eo x 0) (OB F L)).map λp=>(p.1+1,p.2))=none
  cases hb:Nat.beq (Eo x 0) (Eo y 0) with
  | true =>
   obtain⟨rfl,_⟩:=Wm x y 0 0 (by rw[hx,(hL y (by simp)).1]) h8 (hL y (by simp)).2 (Nat.eq_of_beq_eq_true hb)
   exact absurd (by simp) h
  | false =>
   rw[UA hx h8 L (λz hz=>hL z (by simp[hz])) (λk=>h (by simp[k]))];rfl
theorem Sj (d c:Nat):∀ (ps:List (Nat×Nat)) (i:Nat),O3 (ps++[(d,c)]) i=O3 ps i++[⟨IV (Int.ofNat d),IV (Int.ofNat c),i+ps.length⟩]
 | [],i=>rfl
 | (k, b) :: r, i => by
  show _::O3 (r++[(d,c)]) (i+1)=_
  rw[Sj d c r (i+1),show i+1+r.length=i+(r.length+1) by omega];rfl
theorem pE (d c:Nat) (ps:List (Nat×Nat)):Gr (IV (Int.ofNat d)) (IV (Int.ofNat c)) ps.length (Gw ps) none=Gw (ps++[(d,c)])∧Ja ps.length (none:Option (Nat×Value))=(ps++[(d,c)]).length:=by
 constructor
 ·show Br (Gw ps) [⟨IV (Int.ofNat d),IV (Int.ofNat c),ps.length⟩]=_
  unfold Gw
  rw[BH,Sj,Nat.zero_add]
 ·show ps.length+1=_
  simp
end Go.MdM
