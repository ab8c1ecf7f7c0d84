/- Made from wip. -/
import Derived.Test.YtlgmapibifphaaaDoorMdExx

namespace Go.MdM
def occ (v:Int):List Int→Nat→Nat→Nat
 | [],_,i=>i
 | x::h,c,i=>if x=v then (match c with | 0=>i | c+1=>occ v h c (i+1)) else occ v h c (i+1)
theorem Hy (v:Int) (h:List Int) (i:Nat):occ v (v::h) 0 i=i:=by unfold occ;rw[if_pos rfl]
theorem Iy (v:Int) (h:List Int) (c i:Nat):occ v (v::h) (c+1) i=occ v h c (i+1):=by
 show (if v=v then _ else _)=_
 rw[if_pos rfl]
theorem FX {x v:Int} (hx:x≠v) (h:List Int) (c i:Nat):occ v (x::h) c i=occ v h c (i+1):=by
 show (if x=v then _ else _)=_
 rw[if_neg hx]
def sr (h:List Int):List Int→List Int→List Nat
 | [],_=>[]
 | v::w,pre=>occ v h (pre.count v) 0::sr h w (pre++[v])
theorem K3 (h:List Int):∀ (w pre:List Int),(sr h w pre).length=w.length
 | [],_=>rfl
 | v::w,pre=>by show (occ v h (pre.count v) 0::sr h w (pre++[v])).length=_;rw[List.length_cons,K3 h w,List.length_cons]
theorem OU (v:Int):∀ (h:List Int) (c i:Nat),i≤occ v h c i
 | [],_,_=>Nat.le_refl _
 | x :: h, c, i => by
  by_cases e:x=v
  ·subst e
   cases c with
   | zero=>rw[Hy];exact Nat.le_refl _
   | succ c=>rw[Iy];have:=OU x h c (i+1);omega
  ·rw[FX e];have:=OU v h c (i+1);omega
theorem Um (v:Int):∀ (h:List Int) (c i:Nat),c < h.count v→occ v h c i < i+h.length∧h.getD (occ v h c i - i) 0=v∧(h.take (occ v h c i - i)).count v=c
 | [],c,i,hc=>by simp at hc
 | x :: h, c, i, hc => by
  by_cases e:x=v
  ·subst e
   cases c with
   | zero=>rw[Hy];simp
   | succ c =>
    rw[List.count_cons_self] at hc
    obtain⟨h1,h2,h3⟩:=Um x h c (i+1) (by omega)
    have hg:=OU x h c (i+1)
    rw[Iy]
    refine⟨by rw[List.length_cons];omega,?_,?_⟩
    ·rw[show occ x h c (i+1) - i=(occ x h c (i+1) - (i+1))+1 by omega];simpa using h2
    ·rw[show occ x h c (i+1) - i=(occ x h c (i+1) - (i+1))+1 by omega,List.take_succ_cons,List.count_cons_self,h3]
  ·rw[List.count_cons_of_ne e] at hc
   obtain⟨h1,h2,h3⟩:=Um v h c (i+1) hc
   have hg:=OU v h c (i+1)
   rw[FX e]
   refine⟨by rw[List.length_cons];omega,?_,?_⟩
   ·rw[show occ v h c (i+1) - i=(occ v h c (i+1) - (i+1))+1 by omega];simpa using h2
   ·rw[show occ v h c (i+1) - i=(occ v h c (i+1) - (i+1))+1 by omega,List.take_succ_cons,List.count_cons_of_ne e,h3]
def Iz (p x:Nat):Nat:=if x=p then p+1 else if x=p+1 then p else x
theorem QM (p x:Nat):Iz p (Iz p x)=x:=by
 unfold Iz
 by_cases h:x=p
 ·rw[if_pos h,if_neg (by omega),if_pos rfl,h]
 ·rw[if_neg h]
  by_cases h2:x=p+1
  ·rw[if_pos h2,if_pos rfl,h2]
  ·rw[if_neg h2,if_neg h,if_neg h2]
theorem OW (v a b:Int) (hab:a≠b) (m:List Int):∀ (l:List Int) (c i:Nat),c < (l++a::b::m).count v→occ v (l++b::a::m) c i=Iz (i+l.length) (occ v (l++a::b::m) c i)
 | [], c, i, hc => by
  show occ v (b::a::m) c i=Iz (i+0) (occ v (a::b::m) c i)
  rw[Nat.add_zero]
  have far:∀ c j,i+2≤j→Iz i (occ v m c j)=occ v m c j:=fun c j hj=>by
   have:=OU v m c j
   unfold Iz;rw[if_neg (by omega),if_neg (by omega)]
  by_cases h1:a=v
  ·subst h1
   rw[FX (fun e=>hab e.symm)]
   cases c with
   | zero=>rw[Hy,Hy];unfold Iz;rw[if_pos rfl]
   | succ c=>rw[Iy,Iy,FX (fun e=>hab e.symm),far c (i+1+1) (by omega)]
  ·by_cases h2:b=v
   ·subst h2
    rw[FX h1]
    cases c with
    | zero=>rw[Hy,Hy];unfold Iz;rw[if_neg (by omega),if_pos rfl]
    | succ c=>rw[Iy,Iy,FX h1,far c (i+1+1) (by omega)]
   ·rw[FX h2,FX h1,FX h1,FX h2,far c (i+1+1) (by omega)]
 | x :: l, c, i, hc => by
  show occ v (x::(l++b::a::m)) c i=Iz (i+(l.length+1)) (occ v (x::(l++a::b::m)) c i)
  rw[show i+(l.length+1)=i+1+l.length by omega]
  by_cases e:x=v
  ·subst e
   cases c with
   | zero=>rw[Hy,Hy];unfold Iz;rw[if_neg (by omega),if_neg (by omega)]
   | succ c =>
    rw[Iy,Iy]
    exact OW x a b hab m l c (i+1) (by rw[List.cons_append,List.count_cons_self] at hc;omega)
  ·rw[FX e,FX e]
   exact OW v a b hab m l c (i+1) (by rw[List.cons_append,List.count_cons_of_ne e] at hc;exact hc)
theorem VW (a b:Int) (hab:a≠b) (l m:List Int):∀ (w pre:List Int),(∀ v,pre.count v+w.count v≤(l++a::b::m).count v)→sr (l++b::a::m) w pre=(sr (l++a::b::m) w pre).map (Iz l.length)
 | [],_,_=>rfl
 | v :: w, pre, h => by
  have hv:=h v
  rw[List.count_cons_self] at hv
  have e:=OW v a b hab m l (pre.count v) 0 (by omega)
  rw[Nat.zero_add] at e
  show occ v (l++b::a::m) (pre.count v) 0::sr (l++b::a::m) w (pre++[v])=Iz l.length (occ v (l++a::b::m) (pre.count v) 0)::(sr (l++a::b::m) w (pre++[v])).map (Iz l.length)
  rw[e,VW a b hab l m w (pre++[v]) fun u=>by
   have:=h u
   rw[List.count_append]
   by_cases c:v=u
   ·subst c;rw[List.count_cons_self] at this;rw[List.count_cons_self,List.count_nil];omega
   ·rw[List.count_cons_of_ne c] at this;rw[List.count_cons_of_ne c,List.count_nil];omega]
def Jw (a:Nat):List Nat→Nat
 | []=>0
 | b::l=>(if b < a then 1 else 0)+Jw a l
def G9:List Nat→Nat
 | []=>0
 | a::l=>Jw a l+G9 l
theorem QN {p x:Nat} (h1:x≠p) (h2:x≠p+1):Iz p x=x:=by unfold Iz;rw[if_neg h1,if_neg h2]
theorem QO {p a:Nat} (h1:a≠p) (h2:a≠p+1):∀ l:List Nat,Jw a (l.map (Iz p))=Jw a l
 | []=>rfl
 | b :: l => by
  show (if Iz p b < a then 1 else 0)+Jw a (l.map (Iz p))=(if b < a then 1 else 0)+Jw a l
  rw[QO h1 h2 l]
  congr 1
  have:Iz p b < a↔b < a:=by
   unfold Iz
   split
   ·omega
   ·split <;> omega
  by_cases c:b < a
  ·rw[if_pos c,if_pos (this.2 c)]
  ·rw[if_neg c,if_neg (fun k=>c (this.1 k))]
theorem LP {p:Nat}:∀ {l:List Nat},p ∉ l→p+1 ∉ l→l.map (Iz p)=l
 | [],_,_=>rfl
 | b :: l, h1, h2 => by
  rw[List.map_cons,LP (fun h=>h1 (by simp[h])) (fun h=>h2 (by simp[h])),QN (fun e=>h1 (by simp[e])) (fun e=>h2 (by simp[e]))]
theorem LQ {a b:Nat}:∀ {l:List Nat},(∀ x∈l,x < a↔x < b)→Jw a l=Jw b l
 | [],_=>rfl
 | x :: l, h => by
  show (if x < a then 1 else 0)+Jw a l=(if x < b then 1 else 0)+Jw b l
  rw[LQ fun y hy=>h y (by simp[hy])]
  by_cases c:x < a
  ·rw[if_pos c,if_pos ((h x (by simp)).1 c)]
  ·rw[if_neg c,if_neg fun k=>c ((h x (by simp)).2 k)]
theorem Nh (a:Nat):∀ l m:List Nat,Jw a (l++m)=Jw a l+Jw a m
 | [],m=>by simp[Jw]
 | x :: l, m => by
  show (if x < a then 1 else 0)+Jw a (l++m)=(if x < a then 1 else 0)+Jw a l+Jw a m
  rw[Nh a l m];omega
theorem X5 (p:Nat):Iz p p=p+1:=by unfold Iz;rw[if_pos rfl]
theorem X6 (p:Nat):Iz p (p+1)=p:=by unfold Iz;rw[if_neg (by omega),if_pos rfl]
theorem SC {p:Nat}:∀ {l:List Nat},l.Nodup→¬ (p∈l∧p+1∈l)→G9 (l.map (Iz p))=G9 l
 | [],_,_=>rfl
 | x :: l, hn, h => by
  obtain⟨h1,h2⟩:=List.nodup_cons.1 hn
  have ih:=SC (p:=p) h2 fun k=>h ⟨by simp[k.1],by simp[k.2]⟩
  show Jw (Iz p x) (l.map (Iz p))+G9 (l.map (Iz p))=Jw x l+G9 l
  rw[ih]
  congr 1
  by_cases c1:x=p
  ·subst c1
   have hq:x+1 ∉ l:=fun k=>h ⟨by simp,by simp[k]⟩
   rw[LP h1 hq,X5]
   exact LQ fun y hy=>⟨fun k=>by have:y≠x:=fun e=>h1 (e ▸ hy);omega,fun k=>by omega⟩
  ·by_cases c2:x=p+1
   ·subst c2
    have hq:p ∉ l:=fun k=>h ⟨by simp[k],by simp⟩
    rw[LP hq h1,X6]
    exact LQ fun y hy=>⟨fun k=>by omega,fun k=>by have:y≠p:=fun e=>hq (e ▸ hy);omega⟩
   ·rw[QN c1 c2,QO c1 c2]
theorem Un {p:Nat}:∀ {l m:List Nat},(l++p::m).Nodup→p+1∈m→G9 ((l++p::m).map (Iz p))=G9 (l++p::m)+1
 | [], m, hn, hq => by
  obtain⟨h1,h2⟩:=List.nodup_cons.1 hn
  show Jw (Iz p p) (m.map (Iz p))+G9 (m.map (Iz p))=Jw p m+G9 m+1
  rw[SC h2 fun k=>h1 k.1,X5]
  obtain⟨s,t,rfl⟩:=List.append_of_mem hq
  have hs:p ∉ s∧p+1 ∉ s:=by
   rw[List.nodup_append] at h2
   exact⟨fun k=>h1 (by simp[k]),fun k=>h2.2.2 (p+1) k (p+1) (by simp) rfl⟩
  have ht:p ∉ t∧p+1 ∉ t:=by
   rw[List.nodup_append] at h2
   exact⟨fun k=>h1 (by simp[k]),(List.nodup_cons.1 h2.2.1).1⟩
  rw[List.map_append,List.map_cons,LP hs.1 hs.2,LP ht.1 ht.2,X6,Nh,Nh]
  show Jw (p+1) s+((if p < p+1 then 1 else 0)+Jw (p+1) t)+_=Jw p s+((if p+1 < p then 1 else 0)+Jw p t)+_+1
  rw[if_pos (by omega),if_neg (by omega),LQ (a:=p+1) (b:=p) (l:=s) fun y hy=>⟨fun k=>by have:y≠p:=fun e=>hs.1 (e ▸ hy);omega,fun k=>by omega⟩,LQ (a:=p+1) (b:=p) (l:=t) fun y hy=>⟨fun k=>by have:y≠p:=fun e=>ht.1 (e ▸ hy);omega,fun k=>by omega⟩]
  omega
 | x :: l, m, hn, hq => by
  obtain⟨h1,h2⟩:=List.nodup_cons.1 hn
  have ih:=Un (p:=p) (l:=l) (m:=m) h2 hq
  show Jw (Iz p x) ((l++p::m).map (Iz p))+G9 ((l++p::m).map (Iz p))=Jw x (l++p::m)+G9 (l++p::m)+1
  have c1:x≠p:=fun e=>h1 (by simp[e])
  have c2:x≠p+1:=fun e=>h1 (by simp[e,hq])
  rw[ih,QN c1 c2,QO c1 c2];omega
theorem X7 (p:Nat) (l:List Nat):(l.map (Iz p)).map (Iz p)=l:=by
 rw[List.map_map]
 conv=>rhs;rw[←List.map_id l]
 exact List.map_congr_left fun x _=>QM p x
theorem ZI (p:Nat) {x y:Nat} (h:Iz p x=Iz p y):x=y:=by rw[←QM p x,h,QM]
theorem Wz {p:Nat} {l:List Nat} (h:l.Nodup):(l.map (Iz p)).Nodup:=by
 rw[List.Nodup,List.pairwise_map]
 exact h.imp fun hne e=>hne (ZI p e)
theorem SE {p:Nat} {l m:List Nat} (hn:(l++(p+1)::m).Nodup) (hq:p∈m):G9 (l++(p+1)::m)=G9 ((l++(p+1)::m).map (Iz p))+1:=by
 have e:(l++(p+1)::m).map (Iz p)=l.map (Iz p)++p::m.map (Iz p):=by rw[List.map_append,List.map_cons,X6]
 have hn':=Wz (p:=p) hn
 have h:=Un (p:=p) (l:=l.map (Iz p)) (m:=m.map (Iz p)) (by rw[←e];exact hn') (List.mem_map.2 ⟨p,hq,X5 p⟩)
 rw[←e,X7] at h
 exact h
theorem SF {l:List Nat} {p:Nat} (h1:p∈l) (h2:p+1∈l):(∃ s t,l=s++p::t∧p+1∈t)∨∃ s t,l=s++(p+1)::t∧p∈t:=by
 induction l with
 | nil=>cases h1
 | cons x l ih =>
  rcases List.mem_cons.1 h1 with e1 | h1
  ·rcases List.mem_cons.1 h2 with e2 | h2
   ·omega
   ·exact .inl ⟨[],l,by rw[e1];rfl,h2⟩
  ·rcases List.mem_cons.1 h2 with e2 | h2
   ·exact .inr ⟨[],l,by rw[e2];rfl,h1⟩
   ·rcases ih h1 h2 with⟨s,t,rfl,h⟩ | ⟨s,t,rfl,h⟩
    ·exact .inl ⟨x::s,t,rfl,h⟩
    ·exact .inr ⟨x::s,t,rfl,h⟩
end Go.MdM
namespace Go.MdM
theorem X9 (h:List Int):∀ (w pre:List Int) (i:Nat),i < w.length→(sr h w pre).getD i 0=occ (w.getD i 0) h ((pre++w.take i).count (w.getD i 0)) 0
 | [],_,_,hi=>by simp at hi
 | v :: w, pre, 0, _ => by
  show occ v h (pre.count v) 0=occ v h ((pre++[]).count v) 0
  rw[List.append_nil]
 | v :: w, pre, i + 1, hi => by
  have:=X9 h w (pre++[v]) i (by simpa using hi)
  show (sr h w (pre++[v])).getD i 0=occ (w.getD i 0) h ((pre++v::w.take i).count (w.getD i 0)) 0
  rw[this,List.append_assoc];rfl
theorem KS (v:Int):∀ (w:List Int) (i j:Nat),i < j→j < w.length→w.getD i 0=v→(w.take i).count v < (w.take j).count v
 | [],_,_,_,h,_=>by simp at h
 | x::w,0,0,h,_,_=>by omega
 | x::w,i+1,0,h,_,_=>by omega
 | x :: w, 0, j + 1, _, _, e => by
  have e:x=v:=by simpa using e
  rw[List.take_zero,List.count_nil,List.take_succ_cons,e,List.count_cons_self];omega
 | x :: w, i + 1, j + 1, h, hj, e => by
  have:=KS v w i j (by omega) (by simpa using hj) (by simpa using e)
  rw[List.take_succ_cons,List.take_succ_cons]
  by_cases c:x=v
  ·rw[c,List.count_cons_self,List.count_cons_self];omega
  ·rw[List.count_cons_of_ne c,List.count_cons_of_ne c];exact this
theorem O6 (w:List Int) (i:Nat) (hi:i < w.length):(w.take i).count (w.getD i 0) < w.count (w.getD i 0):=by
 have e:w.take i++w[i]::w.drop (i+1)=w:=by
  rw[←List.drop_eq_getElem_cons hi,List.take_append_drop]
 have hg:w.getD i 0=w[i]:=by simp[List.getD_eq_getElem?_getD,hi]
 have h2:(w.take i++w[i]::w.drop (i+1)).count w[i]=w.count w[i]:=by rw[e]
 rw[hg,←h2,List.count_append,List.count_cons_self];omega
theorem Ya:∀ (l m:List Nat),l.Nodup→(∀ y∈l,y∈m)→l.length≤m.length
 | [],_,_,_=>Nat.zero_le _
 | a :: l, m, hn, h => by
  obtain⟨h1,h2⟩:=List.nodup_cons.1 hn
  have ha:=h a (by simp)
  have:=Ya l (m.erase a) h2 fun y hy=>(List.mem_erase_of_ne (fun e=>h1 (by rw[←e];exact hy))).2 (h y (by simp[hy]))
  rw[List.length_erase_of_mem ha] at this
  have:=List.length_pos_of_mem ha
  rw[List.length_cons];omega
section
variable {w x:List Int} (h:LM w x)
include h
theorem Gp {i:Nat} (hi:i < w.length):(sr x w []).getD i 0 < w.length∧x.getD ((sr x w []).getD i 0) 0=w.getD i 0∧(x.take ((sr x w []).getD i 0)).count (w.getD i 0)=(w.take i).count (w.getD i 0):=by
 rw[X9 x w [] i hi,List.nil_append]
 have:=Um (w.getD i 0) x ((w.take i).count (w.getD i 0)) 0 (by rw[h.2];exact O6 w i hi)
 rw[Nat.zero_add,Nat.sub_zero,h.1] at this
 exact this
theorem OX {i j:Nat} (hi:i < w.length) (hj:j < w.length) (hij:i < j):(sr x w []).getD i 0≠(sr x w []).getD j 0:=fun e=>by
 obtain⟨_,a2,a3⟩:=Gp h hi
 obtain⟨_,b2,b3⟩:=Gp h hj
 rw[e,b2] at a2
 rw[e] at a3
 have:=KS (w.getD i 0) w i j hij hj rfl
 rw[←a2] at a3 this
 rw[b3] at a3
 omega
theorem OY:(sr x w []).Nodup:=by
 rw[List.Nodup,List.pairwise_iff_getElem]
 intro i j hi hj hij e
 have hi':=hi
 have hj':=hj
 rw[K3] at hi' hj'
 apply OX h hi' hj' hij
 simp only[List.getD_eq_getElem?_getD,List.getElem?_eq_getElem hi,List.getElem?_eq_getElem hj,Option.getD_some]
 exact e
theorem QR {p:Nat} (hp:p < w.length):p∈sr x w []:=by
 have hn:=OY h
 apply Classical.byContradiction
 intro hno
 have hsub:∀ y∈sr x w [],y∈(List.range w.length).erase p:=fun y hy=>by
  obtain⟨i,hi,rfl⟩:=List.getElem_of_mem hy
  have hi':i < w.length:=by rw[K3] at hi;exact hi
  have:=(Gp h hi').1
  have e:(sr x w []).getD i 0=(sr x w [])[i]:=by simp[List.getD_eq_getElem?_getD,hi]
  rw[e] at this
  rw[List.mem_erase_of_ne (fun e=>hno (by rw[←e];exact hy))]
  exact List.mem_range.2 this
 have:=Ya _ _ hn hsub
 rw[K3,List.length_erase_of_mem (List.mem_range.2 hp),List.length_range] at this
 omega
end
theorem OZ:∀ (n k:Nat),G9 (List.range' k n)=0
 | 0,_=>rfl
 | n + 1, k => by
  rw[List.range'_succ]
  show Jw k (List.range' (k+1) n)+G9 (List.range' (k+1) n)=0
  rw[OZ n (k+1)]
  have:∀ l:List Nat,(∀ y∈l,k < y)→Jw k l=0:=by
   intro l
   induction l with
   | nil=>intro _;rfl
   | cons y l ih =>
    intro hy
    show (if y < k then 1 else 0)+Jw k l=0
    rw[ih fun z hz=>hy z (by simp[hz]),if_neg (by have:=hy y (by simp);omega)]
  rw[this _ fun y hy=>by have:=List.mem_range'_1.1 hy;omega]
theorem O0 (v:Int) (r:List Int):∀ (pre:List Int) (j:Nat),occ v (pre++v::r) (pre.count v) j=j+pre.length
 | [],j=>Hy v r j
 | y :: pre, j => by
  by_cases e:y=v
  ·subst e
   rw[List.cons_append,List.count_cons_self,Iy,O0 y r pre (j+1),List.length_cons];omega
  ·rw[List.cons_append,List.count_cons_of_ne e,FX e,O0 v r pre (j+1),List.length_cons];omega
theorem VY:∀ (w pre:List Int),sr (pre++w) w pre=List.range' pre.length w.length
 | [],_=>rfl
 | v :: w, pre => by
  have h:=VY w (pre++[v])
  rw[List.append_assoc,List.singleton_append] at h
  show occ v (pre++v::w) (pre.count v) 0::sr (pre++v::w) w (pre++[v])=_
  rw[O0,h,List.length_cons,List.range'_succ,Nat.zero_add,List.length_append];rfl
def Dr (w x:List Int):Nat:=G9 (sr x w [])
def nbn (l:List Int):List (List Int):=(List.range (l.length - 1)).map fun p=>sw l p (p+1)
theorem Uo {x:List Int} {p:Nat} (hp:p+1 < x.length):x=x.take p++x.getD p 0::x.getD (p+1) 0::x.drop (p+2)∧(x.take p).length=p:=by
 have h1:p < x.length:=by omega
 have e1:x.getD p 0=x[p]:=by simp[List.getD_eq_getElem?_getD,h1]
 have e2:x.getD (p+1) 0=x[p+1]:=by simp[List.getD_eq_getElem?_getD,hp]
 refine⟨?_,by rw[List.length_take];omega⟩
 rw[e1,e2]
 conv=>lhs;rw[←List.take_append_drop p x,List.drop_eq_getElem_cons h1,List.drop_eq_getElem_cons hp]
theorem VZ {x:List Int} {p:Nat} (hp:p+1 < x.length):sw x p (p+1)=x.take p++x.getD (p+1) 0::x.getD p 0::x.drop (p+2):=by
 obtain⟨e,hl⟩:=Uo hp
 apply Ul
 ·rw[Hw]
  simp;omega
 ·intro i hi
  rw[Hw] at hi
  rw[Sz (by omega) hp (by omega)]
  unfold Pt fl
  have hgd:∀ l:List Int,l.getD i 0=(l[i]?).getD 0:=fun l=>List.getD_eq_getElem?_getD
  rw[hgd (x.take p++_),List.getElem?_append,hl]
  by_cases c:i < p
  ·rw[if_pos c,if_neg (by omega),if_neg (by omega)]
   simp[List.getD_eq_getElem?_getD,c]
  ·rw[if_neg c]
   by_cases c1:i=p
   ·subst c1;rw[if_pos rfl,Nat.sub_self];rfl
   ·rw[if_neg c1]
    by_cases c2:i=p+1
    ·subst c2;rw[if_pos rfl,show p+1 - p=1 by omega];rfl
    ·rw[if_neg c2,show i - p=(i - (p+2))+2 by omega]
     simp only[List.getElem?_cons_succ,List.getElem?_drop]
     rw[show p+2+(i - (p+2))=i by omega]
     rfl
theorem ZJ {w x:List Int} (h:LM w x) {p:Nat} (hp:p+1 < x.length) (hne:x.getD p 0≠x.getD (p+1) 0):sr (sw x p (p+1)) w []=(sr x w []).map (Iz p):=by
 obtain⟨e,hl⟩:=Uo hp
 have:=VW (x.getD p 0) (x.getD (p+1) 0) hne (x.take p) (x.drop (p+2)) w [] fun v=>by
  rw[←e,List.count_nil,h.2 v];omega
 rw[←e,hl] at this
 rw[VZ hp,this]
theorem eF {w x:List Int} (h:LM w x) {p:Nat} (hp:p+1 < x.length):Dr w (sw x p (p+1))≤Dr w x+1∧((∃ s t,sr x w []=s++(p+1)::t∧p∈t)→x.getD p 0≠x.getD (p+1) 0→Dr w (sw x p (p+1))+1=Dr w x):=by
 by_cases hne:x.getD p 0=x.getD (p+1) 0
 ·refine⟨?_,fun _ k=>absurd hne k⟩
  have e:sw x p (p+1)=x:=by
   have h2:=VZ hp
   rw[hne] at h2
   have h3:=(Uo hp).1
   rw[hne] at h3
   rw[h2];exact h3.symm
  rw[e];omega
 ·have hs:=ZJ h hp hne
  have hn:=OY h
  unfold Dr
  rw[hs]
  have hw:=h.1
  rcases SF (QR h (p:=p) (by omega)) (QR h (p:=p+1) (by omega)) with⟨s,t,e,hq⟩ | ⟨s,t,e,hq⟩
  ·have hi:=Un (p:=p) (l:=s) (m:=t) (by rw[←e];exact hn) hq
   rw[←e] at hi
   refine⟨by omega,?_⟩
   rintro⟨s2,t2,e2,hq2⟩ _
   have hi2:=SE (p:=p) (l:=s2) (m:=t2) (by rw[←e2];exact hn) hq2
   rw[←e2] at hi2
   omega
  ·have hi:=SE (p:=p) (l:=s) (m:=t) (by rw[←e];exact hn) hq
   rw[←e] at hi
   exact⟨by omega,fun _ _=>by omega⟩
theorem RO {s:List Nat} {a:List Nat} {v:Nat} {t:List Nat} (e:s=a++v::t):s.getD a.length 0=v∧a.length < s.length:=by
 subst e;simp
theorem RP {w x:List Int} (h:LM w x) (hne:x≠w):∃ p,p+1 < x.length∧Dr w (sw x p (p+1))+1=Dr w x:=by
 have hn:=OY h
 have hl:=K3 x w []
 by_cases hex:∃ p,p+1 < w.length∧∃ s t,sr x w []=s++(p+1)::t∧p∈t
 ·obtain⟨p,hp,s,t,e,hq⟩:=hex
  have hp':p+1 < x.length:=by rw[h.1];exact hp
  refine⟨p,hp',(eF h hp').2 ⟨s,t,e,hq⟩ fun k=>?_⟩
  -- equal numbers keep their order
  obtain⟨i1,i2⟩:=RO e
  obtain⟨t1,t2,rfl⟩:=List.append_of_mem hq
  have e2:sr x w []=(s++(p+1)::t1)++p::t2:=by rw[e];simp
  obtain⟨j1,j2⟩:=RO e2
  have hij:s.length < (s++(p+1)::t1).length:=by simp
  rw[hl] at i2 j2
  obtain⟨_,a2,a3⟩:=Gp h i2
  obtain⟨_,b2,b3⟩:=Gp h j2
  rw[i1] at a2 a3
  rw[j1] at b2 b3
  have hv:w.getD s.length 0=w.getD (s++(p+1)::t1).length 0:=by rw[←a2,←b2,k]
  have hc:=KS (w.getD s.length 0) w s.length (s++(p+1)::t1).length hij j2 rfl
  rw[←hv] at b3
  have hlt:=KS (w.getD s.length 0) x p (p+1) (by omega) hp' (by rw[b2,hv])
  omega
 ·exfalso
  apply hne
  -- all stand in order
  have up:∀ p,∀ i,i < w.length→(sr x w []).getD i 0=p→p≤i:=by
   intro p
   induction p with
   | zero=>intro i _ _;omega
   | succ p ih =>
    intro i hi e
    have hp1:=(Gp h hi).1
    rw[e] at hp1
    rcases SF (QR h (p:=p) (by omega)) (QR h (p:=p+1) hp1) with⟨s,t,es,hq⟩ | ⟨s,t,es,hq⟩
    ·obtain⟨k1,k2⟩:=RO es
     obtain⟨t1,t2,rfl⟩:=List.append_of_mem hq
     have e2:sr x w []=(s++p::t1)++(p+1)::t2:=by rw[es];simp
     obtain⟨j1,j2⟩:=RO e2
     rw[hl] at k2 j2
     have hle:=ih s.length k2 k1
     have hij:s.length < (s++p::t1).length:=by simp
     -- the place is the same
     have hi2:i=(s++p::t1).length:=by
      rcases Nat.lt_trichotomy i (s++p::t1).length with c | c | c
      ·exact absurd (e.trans j1.symm) (OX h hi j2 c)
      ·exact c
      ·exact absurd (j1.trans e.symm) (OX h j2 hi c)
     omega
    ·exact absurd ⟨p,hp1,s,t,es,hq⟩ hex
  have fix:∀ n i,i < n→i < w.length→(sr x w []).getD i 0=i:=by
   intro n
   induction n with
   | zero=>intro i h;omega
   | succ n ih =>
    intro i UX hi
    have hle:=up _ i hi rfl
    by_cases c:(sr x w []).getD i 0=i
    ·exact c
    ·have:=ih ((sr x w []).getD i 0) (by omega) (by omega)
     exact absurd this (OX h (by omega) hi (by omega))
  apply Ul h.1
  intro i hi
  rw[h.1] at hi
  have:=(Gp h hi).2.1
  rw[fix (i+1) i (by omega) hi] at this
  exact this
theorem oK (w:List Int):Bfs.World nbn (LM w) (Dr w) w where
 hw:=⟨rfl,fun _=>rfl⟩
 h0:=by
  unfold Dr
  have:=VY w []
  rw[List.nil_append] at this
  rw[this];exact OZ _ _
 hU:=fun x hx y hy=>by
  obtain⟨p,hp,rfl⟩:=List.mem_map.1 hy
  have:=List.mem_range.1 hp
  exact OT hx (by omega) (by omega) (by omega)
 up:=fun x hx y hy=>by
  obtain⟨p,hp,rfl⟩:=List.mem_map.1 hy
  have:=List.mem_range.1 hp
  exact(eF hx (by omega)).1
 sym:=fun x hx y hy=>by
  obtain⟨p,hp,rfl⟩:=List.mem_map.1 hy
  have h2:=List.mem_range.1 hp
  refine List.mem_map.2 ⟨p,by rw[Hw];exact hp,?_⟩
  exact zZ (by omega) (by omega) (by omega)
 dn:=fun x hx hne=>by
  obtain⟨p,hp,e⟩:=RP hx hne
  exact⟨sw x p (p+1),List.mem_map.2 ⟨p,List.mem_range.2 (by omega),rfl⟩,e⟩
end Go.MdM
set_option maxRecDepth 100000
namespace Go.MdM
open Go Go.Sp Go.RgP
def Dy:List Int→Nat→Nat
 | [],a=>a
 | x::l,a=>Dy l (8*a+x.toNat)
def TY (l:List Int):Prop:=∀ x∈l,0≤x∧x < 8
theorem RQ:∀ (l m:List Int) (a b:Nat),l.length=m.length→TY l→TY m→Dy l a=Dy m b→l=m∧a=b
 | [],[],_,_,_,_,_,h=>⟨rfl,h⟩
 | [],y::m,_,_,h,_,_,_=>by simp at h
 | x::l,[],_,_,h,_,_,_=>by simp at h
 | x :: l, y :: m, a, b, h, h1, h2, e => by
  obtain⟨rfl,e2⟩:=RQ l m _ _ (by simpa using h) (fun z hz=>h1 z (by simp[hz])) (fun z hz=>h2 z (by simp[hz])) e
  have hx:=h1 x (by simp)
  have hy:=h2 y (by simp)
  have:x.toNat=y.toNat∧a=b:=by omega
  have hxy:x=y:=by omega
  exact⟨by rw[hxy],this.2⟩
theorem eG:∀ (l:List Int) (a k:Nat),TY l→a < k→Dy l a < k*8 ^ l.length
 | [],a,k,_,h=>by simpa [Dy] using h
 | x :: l, a, k, h1, h => by
  have hx:=h1 x (by simp)
  have:=eG l (8*a+x.toNat) (8*k) (fun z hz=>h1 z (by simp[hz])) (by omega)
  show Dy l (8*a+x.toNat) < k*8 ^ (l.length+1)
  rw[Nat.pow_succ]
  have e:k*(8 ^ l.length*8)=8*k*8 ^ l.length:=by rw[Nat.mul_comm (8 ^ l.length) 8,←Nat.mul_assoc,Nat.mul_comm k 8]
  omega
def KV (F:List Int→Nat) (L:List (List Int)):List (Nat×Nat):=L.map fun x=>(Dy x 0,F x)
theorem Yb (F:List Int→Nat) (L:List (List Int)) (x:List Int):KV F (L++[x])=KV F L++[(Dy x 0,F x)]:=by unfold KV;simp
theorem V3 (F:List Int→Nat) (L:List (List Int)):(KV F L).length=L.length:=by unfold KV;simp
theorem LU {F:List Int→Nat} {n:Nat} {x:List Int} (hx:x.length=n) (h8:TY x):∀ (L:List (List Int)),(∀ y∈L,y.length=n∧TY y)→x∈L→∃ j,place (Dy x 0) (KV F L)=some (j,F x)
 | [],_,h=>by cases h
 | y :: L, hL, h => by
  show ∃ j,(bif Nat.beq (Dy x 0) (Dy y 0) then some (0,F y) else (place (Dy x 0) (KV F L)).map fun p=>(p.1+1,p.2))=some (j,F x)
  cases hb:Nat.beq (Dy x 0) (Dy y 0) with
  | true =>
   obtain⟨rfl,_⟩:=RQ x y 0 0 (by rw[hx,(hL y (by simp)).1]) h8 (hL y (by simp)).2 (Nat.eq_of_beq_eq_true hb)
   exact⟨0,rfl⟩
  | false =>
   rcases List.mem_cons.1 h with rfl | h
   ·rw[Nat.beq_refl] at hb;cases hb
   ·obtain⟨j,e⟩:=LU hx h8 L (fun z hz=>hL z (by simp[hz])) h
    rw[e];exact⟨j+1,rfl⟩
theorem PN {F:List Int→Nat} {n:Nat} {x:List Int} (hx:x.length=n) (h8:TY x):∀ (L:List (List Int)),(∀ y∈L,y.length=n∧TY y)→x ∉ L→place (Dy x 0) (KV F L)=none
 | [],_,_=>rfl
 | y :: L, hL, h => by
  show (bif Nat.beq (Dy x 0) (Dy y 0) then some (0,F y) else (place (Dy x 0) (KV F L)).map fun p=>(p.1+1,p.2))=none
  cases hb:Nat.beq (Dy x 0) (Dy y 0) with
  | true =>
   obtain⟨rfl,_⟩:=RQ x y 0 0 (by rw[hx,(hL y (by simp)).1]) h8 (hL y (by simp)).2 (Nat.eq_of_beq_eq_true hb)
   exact absurd (by simp) h
  | false =>
   rw[PN hx h8 L (fun z hz=>hL z (by simp[hz])) (fun k=>h (by simp[k]))];rfl
theorem O1 (d c:Nat):∀ (ps:List (Nat×Nat)) (i:Nat),LJ (ps++[(d,c)]) i=LJ ps i++[⟨IV (Int.ofNat d),IV (Int.ofNat c),i+ps.length⟩]
 | [],i=>rfl
 | (k, b) :: r, i => by
  show _::LJ (r++[(d,c)]) (i+1)=_
  rw[O1 d c r (i+1),show i+1+r.length=i+(r.length+1) by omega];rfl
theorem ZK (d c:Nat) (ps:List (Nat×Nat)):Gr (IV (Int.ofNat d)) (IV (Int.ofNat c)) ps.length (Fh ps) none=Fh (ps++[(d,c)])∧Ja ps.length (none:Option (Nat×Value))=(ps++[(d,c)]).length:=by
 constructor
 ·show Br (Fh ps) [⟨IV (Int.ofNat d),IV (Int.ofNat c),ps.length⟩]=_
  unfold Fh
  rw[BH,O1,Nat.zero_add]
 ·show ps.length+1=_
  simp
end Go.MdM
set_option maxRecDepth 100000
set_option maxHeartbeats 4000000
namespace Go.MnNM
open Go Go.Sp Go.MnN Go.MdM Go.MdV Go.RgP
theorem q23 (k:Nat) (args:List Value):FD (k+1) 23 args=vP (FD k) L args:=by kernel_rfl
theorem oL:∀ (l:List Int) (a:Nat),TY l→Dy l a < (a+1)*8 ^ l.length:=fun l a h=>eG l a (a+1) h (by omega)
theorem Aaa (a b:Nat) (h:8*a+b < 1000000000):Aj .i64 (Int.add (Aj .i64 (Int.mul 8 (Int.ofNat a))) (Int.ofNat b))=Int.ofNat (8*a+b):=by
 have e1:Int.mul 8 (Int.ofNat a)=((8*a:Nat):Int):=by show (8:Int)*(a:Int)=_;omega
 rw[e1,show Aj .i64 ((8*a:Nat):Int)=((8*a:Nat):Int) from Oe _ (by omega) (by omega)]
 have e2:Int.add ((8*a:Nat):Int) (Int.ofNat b)=((8*a+b:Nat):Int):=by show ((8*a:Nat):Int)+(b:Int)=_;omega
 rw[e2];exact Oe _ (by omega) (by omega)
theorem Yc (pu:Af) (M fl:Nat) (l:List Int) (h8:TY l) (hl:l.length≤6):∀ (d w i a:Nat),i+d=l.length→d < w→a < 8 ^ i →
 Oy pu M w (Int.ofNat a) (sl fl l) (Int.ofNat l.length) (Int.ofNat i)=some (I (Int.ofNat (Dy (l.drop i) a)))
 | _,0,_,_,_,h,_=>by omega
 | 0, w + 1, i, a, hd, _, _ => by
  show Ox pu M (Oy pu M w) _ _ _ _=_
  unfold Ox
  rw[FL (by omega),AA,List.drop_eq_nil_of_le (by omega)];rfl
 | d + 1, w + 1, i, a, hd, hw, ha => by
  have hlt:i < l.length:=by omega
  have e:l.drop i=l[i]::l.drop (i+1):=List.drop_eq_getElem_cons hlt
  have hx:=h8 l[i] (List.getElem_mem hlt)
  have hp:(8:Nat) ^ (i+1)≤8 ^ 6:=Nat.pow_le_pow_right (by decide) (by omega)
  have hps:(8:Nat) ^ (i+1)=8*8 ^ i:=by rw[Nat.pow_succ,Nat.mul_comm]
  have h6:(8:Nat) ^ 6=262144:=rfl
  have ex:l[i]=Int.ofNat l[i].toNat:=(Int.toNat_of_nonneg hx.1).symm
  have ih:=Yc pu M fl l h8 hl d w (i+1) (8*a+l[i].toNat) (by omega) (by omega) (by omega)
  rw[e]
  show Ox pu M (Oy pu M w) _ _ _ _=some (I (Int.ofNat (Dy (l.drop (i+1)) (8*a+l[i].toNat))))
  rw[←ih]
  unfold Ox
  rw[Fp hlt]
  simp only[Ak,Cx,Ac,I4,GX,blt_eq,hlt,decide_true,CF,Bool.true_and,BZ,Nat.mul_one,Aja l i hlt,BP,DC i (by omega:i < 1000000)]
  have hw2:Aj .i64 (Int.add (Aj .i64 (Int.mul 8 (Int.ofNat a))) l[i])=Int.ofNat (8*a+l[i].toNat):=by
   conv=>lhs;rw[ex]
   exact Aaa a l[i].toNat (by omega)
  rw[hw2]
theorem p23 (n fl:Nat) (l:List Int) (h8:TY l) (hl:l.length≤6):FD (n+1) 23 [S fl l]=some (I (Int.ofNat (Dy l 0))):=by
 rw[q23]
 have h:=Yc (FD n) L fl l h8 hl l.length L 0 0 (by omega) (by show _ < 1000000;omega) (by decide)
 rw[List.drop_zero] at h
 exact h
theorem q24 (k:Nat) (args:List Value):FD (k+1) 24 args=pI (FD k) L args:=by kernel_rfl
theorem Abj (pu:Af) (fl:Nat) (l:List Int) (a b:Int):pI pu L [S fl l,I a,I b]=Yp pu L (sl fl l) a b:=by kernel_rfl
theorem p24 (n fl:Nat) (l:List Int) {a b:Nat} (hl:l.length≤6) (ha:a < l.length) (hb:b < l.length):FD (n+1) 24 [S fl l,I (Int.ofNat a),I (Int.ofNat b)]=some (S 0 (sw l a b)):=by
 rw[q24,Abj]
 unfold Yp
 have hn:Nat.beq (sl fl l).n 0=false:=XR (show l.length≠0 by omega)
 have rm:EQ (0+l.length) 8=true:=by rw[Nat.zero_add];exact LZ (by omega)
 have ht:Aq (l.length*1) (l.map I)=l.map I:=by rw[Cg,Nat.mul_one];exact List.take_of_length_le (by simp)
 have ga:AL (l.map I) (0+a*1)=some (I (l.getD a 0)):=by rw[BZ,Nat.zero_add,Nat.mul_one,Aja l a ha];simp[ha]
 have gb:AL (l.map I) (0+b*1)=some (I (l.getD b 0)):=by rw[BZ,Nat.zero_add,Nat.mul_one,Aja l b hb];simp[hb]
 have s1:BM ([I (l.getD b 0)]:List Value) (0+a*1) (l.map I)=(l.set a (l.getD b 0)).map I:=by rw[Nat.zero_add,Nat.mul_one,Jb _ _ _ (by simpa using ha),List.map_set]
 have s2:BM ([I (l.getD a 0)]:List Value) (0+b*1) ((l.set a (l.getD b 0)).map I)=(sw l a b).map I:=by rw[Nat.zero_add,Nat.mul_one,Jb _ _ _ (by simpa using hb),←List.map_set];rfl
 have c1:an (Nat.ble (0+a*1+1) (len (l.map I))) true=true:=by rw[CF,Bool.and_true,AV,List.length_map];exact Nat.ble_eq_true_of_le (by omega)
 have c2:an (Nat.ble (0+b*1+1) (len ((l.set a (l.getD b 0)).map I))) true=true:=by rw[CF,Bool.and_true,AV,List.length_map,List.length_set];exact Nat.ble_eq_true_of_le (by omega)
 have c3:an (Nat.ble (0+(0+l.length)*1) (len ((sw l a b).map I))) (Au Ah ((sw l a b).map I))=true:=by
  rw[WE,AV,List.length_map,Hw,Nat.ble_eq_true_of_le (by omega)];rfl
 have c4:Aq ((0+l.length)*1) (Am 0 ((sw l a b).map I))=(sw l a b).map I:=by rw[Cg,Bz,List.drop_zero];exact List.take_of_length_le (by rw[List.length_map,Hw];omega)
 have c5:Au Ah (Aq ((0+l.length)*1) (Am 0 ((sw l a b).map I)))=true:=by rw[c4,WE]
 rw[hn,AA]
 simp only[I4,GX,rm,Ak,ht,WE,Cx,Ac,VL (show a < 0+l.length by omega),VL (show b < 0+l.length by omega),ga,gb,BP,c1,s1,c2,s2,c4]
 have c6:an (Nat.ble (0+(0+l.length)*1) (len ((sw l a b).map I))) true=true:=by rw[CF,Bool.and_true,AV,List.length_map,Hw];exact Nat.ble_eq_true_of_le (by omega)
 rw[c6,Ak]
 unfold S sl
 rw[Hw,Nat.zero_add]
theorem V4 {M:List (List Int)} {x:List Int} (h:x∈M):Bfs.news M [x]=M:=by unfold Bfs.news;rw[if_pos h];rfl
theorem SG {M:List (List Int)} {x:List Int} (h:x ∉ M):Bfs.news M [x]=M++[x]:=by unfold Bfs.news;rw[if_neg h];rfl
theorem oM:Bi .i64 (Wd (none:Option (Nat×Value)) (.int .i64 (0:Int)))=some 0:=rfl
theorem Uq (j:Nat) (v:Int):Bi .i64 (Wd (some (j,IV v)) (.int .i64 (0:Int)))=some v:=rfl
theorem oN:nt (isS (none:Option (Nat×Value)))=true:=rfl
theorem oO (p:Nat×Value):nt (isS (some p))=false:=rfl
def QS (M:List (List Int)) (i off n c:Nat) (q:List Value):Prop:=n+i=M.length∧c / 2=n∧c % 2=0∧off+n=len q∧Am off q=(M.drop i).map (S 0)∧Au Ah q=true
theorem Abk (l:List (List Int)):Au Ah (l.map (S 0))=true:=by
 rw[Bh,List.all_eq_true]
 intro v hv
 obtain⟨z,_,rfl⟩:=List.mem_map.1 hv
 rfl
theorem ZL {M:List (List Int)} {i off n c:Nat} {q:List Value} (h:QS M i off n c q) (hM:M.length≤300000):Ou 1 24 off n c 1 q=true:=by
 obtain⟨h1,h2,h3,h4,_,_⟩:=h
 unfold Ou
 have k1:EQ (n+1) 24=true:=by
  unfold EQ
  exact Nat.ble_eq_true_of_le (by show (4*(n+1)+4096)*24≤281474976710656;omega)
 have k2:nt (Nat.ble (n+1) (c / 2))=true:=by
  rw[h2]
  cases h:Nat.ble (n+1) n with
  | false=>rfl
  | true=>have:=Nat.le_of_ble_eq_true h;omega
 have k3:Nat.ble (off+n*1) (len q)=true:=Nat.ble_eq_true_of_le (by omega)
 have k4:Nat.beq (off+n*1) (len q)=true:=by rw[Nat.mul_one,h4];exact Nat.beq_refl _
 rw[k1,k2,k3,k4,h3];rfl
theorem V5 {M:List (List Int)} {i off n c:Nat} {q:List Value} (h:QS M i off n c q) (x:List Int):QS (M++[x]) i 0 (n+1) (2*(n+1)+bb false 1 0) (Br (Am off q) [S 0 x]):=by
 obtain⟨h1,h2,h3,h4,h5,h6⟩:=h
 have e:Br (Am off q) [S 0 x]=((M++[x]).drop i).map (S 0):=by
  rw[h5,BH,List.drop_append_of_le_length (by omega)];simp
 refine⟨by rw[List.length_append,List.length_singleton];omega,by show (2*(n+1)+0) / 2=n+1;omega,by show (2*(n+1)+0) % 2=0;omega,?_,?_,?_⟩
 ·rw[e,AV,List.length_map,List.length_drop,List.length_append,List.length_singleton];omega
 ·rw[e,Bz,List.drop_zero]
 ·rw[e];exact Abk _
theorem oP {M:List (List Int)} {i off n c:Nat} {q:List Value} (h:QS M i off n c q) (hi:i < M.length):QS M (i+1) (off+1*1) (n - 1) (2*(c / 2 - 1)+bb (Dp false (Nat.beq (c % 2) 1)) 1 0) q:=by
 obtain⟨h1,h2,h3,h4,h5,h6⟩:=h
 have e:bb (Dp false (Nat.beq (c % 2) 1)) 1 0=0:=by rw[h3];rfl
 refine⟨by omega,by rw[e,h2];omega,by rw[e];omega,by omega,?_,h6⟩
 have:Am (off+1*1) q=(Am off q).drop 1:=by rw[Bz,Bz,List.drop_drop]
 rw[this,h5,←List.map_drop,List.drop_drop]
theorem ZM {M:List (List Int)} {i off n c:Nat} {q:List Value} (h:QS M i off n c q) (hi:i < M.length):AL q (off+0*1)=some (S 0 M[i]):=by
 obtain⟨h1,h2,h3,h4,h5,h6⟩:=h
 rw[BZ,Nat.zero_mul,Nat.add_zero]
 have:q[off]?=(q.drop off)[0]?:=by rw[List.getElem?_drop,Nat.add_zero]
 rw[this,←Bz,h5,List.getElem?_map,List.getElem?_drop,Nat.add_zero,List.getElem?_eq_getElem hi];rfl
section
variable {w:List Int} {F:List Int→Nat} (h8:TY w) (hl:w.length≤6) (near:Bool) (n:Nat)
theorem Hz {x : List Int} (h8 : TY w) (h : LM w x) : TY x := fun z hz => h8 z (by
 have:=h.2 z
 rw[←List.count_pos_iff,←this,List.count_pos_iff];exact hz)
include h8 hl
theorem Aab (ih0:Bool→Nat→Nat→Nat→List EO→Nat→List Value→Option Value) (ih1:Bool→Nat→Nat→Nat→Sl→Int→Int→List EO→Nat→List Value→Option Value) (ih2:Bool→Nat→Nat→Nat→Sl→Int→Int→Int→Int→List EO→Nat→List Value→Option Value)
 {M:List (List Int)} (hM:∀ x∈M,LM w x) (hMl:M.length≤300000) {l:List Int} (hlM:l∈M) {a b:Nat} (ha:a < l.length) (hb:b < l.length) (hab:a≠b) (hF:sw l a b ∉ M→F (sw l a b)=F l+1) (hFl:F l≤1000) {i off nn c:Nat} {q:List Value} (hq:QS M i off nn c q) :
 ∃ off' nn' c' q', QS (Bfs.news M [sw l a b]) i off' nn' c' q' ∧ FY (FD (n + 1)) L ih0 ih1 ih2 near off nn c (sl 0 l) (Int.ofNat a) (Int.ofNat b) (Int.ofNat l.length) (Int.ofNat a) true (Fh (KV F M)) M.length q =
  Jh (FD (n+1)) L ih0 ih1 ih2 near off' nn' c' (sl 0 l) (Int.ofNat a) (Int.ofNat b) (Int.ofNat l.length) (Int.ofNat a) (Fh (KV F (Bfs.news M [sw l a b]))) (Bfs.news M [sw l a b]).length q':=by
 have ol:=hM l hlM
 have ox:=OT ol ha hb hab
 have ln:l.length≤6:=by rw[ol.1];exact hl
 have e24:FD (n+1) 24 [Sl.v 1 (sl 0 l),.int .i64 (Int.ofNat a),.int .i64 (Int.ofNat b)]=some (Sl.v 1 (sl 0 (sw l a b))):=p24 n 0 l ln ha hb
 have e23x:FD (n+1) 23 [Sl.v 1 (sl 0 (sw l a b))]=some (.int .i64 (Int.ofNat (Dy (sw l a b) 0))):=p23 n 0 _ (Hz h8 ox) (by rw[Hw];exact ln)
 have e23l:FD (n+1) 23 [Sl.v 1 (sl 0 l)]=some (.int .i64 (Int.ofNat (Dy l 0))):=p23 n 0 l (Hz h8 ol) ln
 have hall:∀ y∈M,y.length=w.length∧TY y:=fun y hy=>⟨(hM y hy).1,Hz h8 (hM y hy)⟩
 have fx:=KZ (Dy (sw l a b) 0) (KV F M)
 have flk:=KZ (Dy l 0) (KV F M)
 obtain⟨j,pl⟩:=LU (F:=F) ol.1 (Hz h8 ol) M hall hlM
 rw[pl] at flk
 have flk:GD (.int .i64 (Int.ofNat (Dy l 0))) (Fh (KV F M)) 0=some (some (j,IV (Int.ofNat (F l)))):=flk
 have hc:=hq.2.2.2.2.2
 by_cases hx:sw l a b∈M
 ·obtain⟨j2,px⟩:=LU (F:=F) ox.1 (Hz h8 ox) M hall hx
  rw[px] at fx
  have fx:GD (.int .i64 (Int.ofNat (Dy (sw l a b) 0))) (Fh (KV F M)) 0=some (some (j2,IV (Int.ofNat (F (sw l a b))))):=fx
  have en:=V4 hx
  refine⟨off,nn,c,q,by rw[en];exact hq,?_⟩
  rw[en]
  unfold FY
  rw[Ak,DT,Ak,hc,Ak,e24,Ac,Dc,Ac,e23x,Ac,BP,Ac,fx,Ac,Uq,Ac,oO,AA]
 ·have px:=PN (F:=F) ox.1 (Hz h8 ox) M hall hx
  rw[px] at fx
  have fx:GD (.int .i64 (Int.ofNat (Dy (sw l a b) 0))) (Fh (KV F M)) 0=some none:=fx
  have en:=SG hx
  refine⟨0,nn+1,2*(nn+1)+bb false 1 0,Br (Am off q) [S 0 (sw l a b)],by rw[en];exact V5 hq _,?_⟩
  rw[en]
  have hv:=hF hx
  obtain⟨u1,u2⟩:=ZK (Dy (sw l a b) 0) (F l+1) (KV F M)
  rw[V3] at u1 u2
  have hps:KV F M++[(Dy (sw l a b) 0,F l+1)]=KV F (M++[sw l a b]):=by rw[Yb,hv]
  rw[hps] at u1 u2
  rw[V3] at u2
  have hw1:Aj .i64 (Int.add (Int.ofNat (F l)) 1)=Int.ofNat (F l+1):=DC (F l) (by omega)
  have hcl:Au Ah (Br (Am off q) [Sl.v 1 (sl 0 (sw l a b))])=true:=(V5 hq (sw l a b)).2.2.2.2.2
  unfold FY
  rw[Ak,DT,Ak,hc,Ak,e24,Ac,Dc,Ac,e23x,Ac,BP,Ac,fx,Ac,oM,Ac,oN,Ak,Ac,BP,Ac,e23l,Ac,BP,Ac,flk,Ac,Uq,Ac,fx,Ac,hw1,u1,u2,DT,Ak,ZL hq hMl,Ak,hcl,Ak]
  rfl
end
end Go.MnNM
set_option maxRecDepth 100000
set_option maxHeartbeats 4000000
namespace Go.MnNM
open Go Go.Sp Go.MnN Go.MdM Go.MdV Go.RgP
theorem SI {α:Type} [DecidableEq α] (xs ys:List α):∀ (M:List α),Bfs.news M (xs++ys)=Bfs.news (Bfs.news M xs) ys:=by
 induction xs with
 | nil=>intro M;rfl
 | cons x xs ih =>
  intro M
  show Bfs.news (if x∈M then M else M++[x]) (xs++ys)=Bfs.news (Bfs.news (if x∈M then M else M++[x]) xs) ys
  exact ih _
theorem V6 (x:Int):Bd x x=true:=by rw[Lr];simp
theorem O3 {α β:Type} {f g:α→List β}:∀ {l:List α},(∀ a∈l,f a=g a)→l.flatMap f=l.flatMap g
 | [],_=>rfl
 | a::l,h=>by rw[List.flatMap_cons,List.flatMap_cons,h a (by simp),O3 fun b hb=>h b (by simp[hb])]
theorem WA (x:List Int) (ys M:List (List Int)):Bfs.news M (x::ys)=Bfs.news (Bfs.news M [x]) ys:=SI [x] ys M
def LW (near:Bool) (n a:Nat):List Nat:=if near then (if a+1 < n then [a+1] else []) else (List.range n).drop (a+1)
def Uw (near:Bool) (l:List Int):List (List Int):=(List.range l.length).flatMap fun a=>(LW near l.length a).map fun b=>sw l a b
theorem Yd : ∀ (n : Nat) (f : Nat → List Int), ((List.range n).flatMap fun a => ((if a + 1 < n then [a + 1] else []) : List Nat).map fun b => f a) = (List.range (n - 1)).map f
 | 0,_=>rfl
 | n + 1, f => by
  rw[List.range_succ,List.flatMap_append,Nat.add_sub_cancel]
  have e:((List.range n).flatMap fun a=>((if a+1 < n+1 then [a+1] else []):List Nat).map fun b=>f a)=(List.range n).map f:=by
   rw[List.map_eq_flatMap]
   apply O3
   intro a ha
   rw[if_pos (by have:=List.mem_range.1 ha;omega)];rfl
  rw[e];simp
theorem Aac (l:List Int):Uw true l=nbn l:=by
 unfold Uw nbn LW
 rw[←Yd l.length fun p=>sw l p (p+1)]
 apply O3
 intro a _
 rw[if_pos rfl]
 split <;> rfl
section
variable {w:List Int} {F:List Int→Nat} (h8:TY w) (hl:w.length≤6) (near:Bool) (n:Nat)
include h8 hl
theorem eH (ih0:Bool→Nat→Nat→Nat→List EO→Nat→List Value→Option Value) (ih1:Bool→Nat→Nat→Nat→Sl→Int→Int→List EO→Nat→List Value→Option Value)
 {L0:List (List Int)} {l:List Int} (hlL:l∈L0) (hol:LM w l) {a:Nat} (ha:a < l.length) (hFl:F l≤1000) (hF:∀ b,a < b→b < l.length→(near=true→b=a+1)→sw l a b ∉ L0→F (sw l a b)=F l+1) (hL0:L0.length≤270000) {i:Nat}:∀ (d ww b:Nat) (M:List (List Int)) (off nn c:Nat) (q:List Value),b+d=l.length→d < ww→a < b→(∀ x∈L0,x∈M)→(∀ x∈M,LM w x)→M.length≤280000+b→QS M i off nn c q →
 ∃ off' nn' c' q', QS (Bfs.news M ((if near then (if b = a + 1 ∧ b < l.length then [b] else []) else (List.range l.length).drop b).map fun b => sw l a b)) i off' nn' c' q' ∧
  Gn (FD (n+1)) L ih0 ih1 ww near off nn c (sl 0 l) (Int.ofNat a) (Int.ofNat b) (Int.ofNat l.length) (Int.ofNat a) (Fh (KV F M)) M.length q=Ke (FD (n+1)) L ih0 ih1 near off' nn' c' (sl 0 l) (Int.ofNat l.length) (Int.ofNat a) (Fh (KV F (Bfs.news M ((if near then (if b=a+1∧b < l.length then [b] else []) else (List.range l.length).drop b).map fun b=>sw l a b)))) (Bfs.news M ((if near then (if b=a+1∧b < l.length then [b] else []) else (List.range l.length).drop b).map fun b=>sw l a b)).length q'
 | _,0,_,_,_,_,_,_,_,h,_,_,_,_,_=>by omega
 | 0, ww + 1, b, M, off, nn, c, q, hd, _, hab, hLM, hM, hMl, hq => by
  have hc:=hq.2.2.2.2.2
  have e:(if near then (if b=a+1∧b < l.length then [b] else []) else (List.range l.length).drop b)=[]:=by
   cases near with
   | true=>rw[if_pos rfl,if_neg (by omega)]
   | false=>rw[if_neg (by decide),List.drop_eq_nil_of_le (by simp;omega)]
  rw[e,List.map_nil]
  refine⟨off,nn,c,q,hq,?_⟩
  show HV (FD (n+1)) L ih0 ih1 (Gn (FD (n+1)) L ih0 ih1 ww) _ _ _ _ _ _ _ _ _ _ _ _=_
  unfold HV
  rw[I4,FL (by omega),AA,DT,hc,Ak,Ak]
  unfold FY
  rw[AA,DT,hc,Ak,Ak]
  rfl
 | d + 1, ww + 1, b, M, off, nn, c, q, hd, hw, hab, hLM, hM, hMl, hq => by
  have hc:=hq.2.2.2.2.2
  have hb:b < l.length:=by omega
  have hll:l.length≤6:=by rw[hol.1];exact hl
  show ∃ off' nn' c' q',_∧HV (FD (n+1)) L ih0 ih1 (Gn (FD (n+1)) L ih0 ih1 ww) _ _ _ _ _ _ _ _ _ _ _ _=_
  by_cases hgo:near=true∧b≠a+1
  ·-- no neighbour
   obtain⟨rfl,hne⟩:=hgo
   rw[if_pos rfl,if_neg (fun k=>hne k.1),List.map_nil]
   refine⟨off,nn,c,q,hq,?_⟩
   unfold HV
   have e1:Bd (Int.ofNat b) (Aj .i64 (Int.add (Int.ofNat a) 1))=false:=by rw[DC a (by omega),Lr];exact decide_eq_false (fun k=>hne (Int.ofNat.inj k))
   rw[I4,Fp hb,Ak,show nt true=false from rfl,AA,DT,hc,Ak,Ak,e1]
   unfold FY
   rw[AA,DT,hc,Ak,Ak]
   rfl
  ·have hok:near=true→b=a+1:=fun k=>Classical.byContradiction fun k2=>hgo ⟨k,k2⟩
   obtain⟨off1,nn1,c1,q1,hq1,e1⟩:=Aab h8 hl near n ih0 ih1 (Gn (FD (n+1)) L ih0 ih1 ww) hM (by omega) (hLM l hlL) ha hb (by omega) (fun k=>hF b hab hb hok fun k2=>k (hLM _ k2)) hFl hq
   have hM1:∀ x∈Bfs.news M [sw l a b],LM w x:=fun x hx=>by
    obtain⟨E,e,h1,_⟩:=Bfs.news_ext [sw l a b] M
    rw[e] at hx
    rcases List.mem_append.1 hx with hx | hx
    ·exact hM x hx
    ·rw[List.mem_singleton.1 (h1 x hx).1];exact OT hol ha hb (by omega)
   have hlen1:(Bfs.news M [sw l a b]).length≤M.length+1:=by
    by_cases hx:sw l a b∈M
    ·rw[V4 hx];omega
    ·rw[SG hx];simp
   have hc1:=hq1.2.2.2.2.2
   obtain⟨off2,nn2,c2,q2,hq2,e2⟩:=eH ih0 ih1 hlL hol ha hFl hF hL0 (i:=i) d ww (b+1) (Bfs.news M [sw l a b]) off1 nn1 c1 q1 (by omega) (by omega) (by omega) (fun x hx=>(Bfs.news_has [sw l a b] M).2 x (hLM x hx)) hM1 (by omega) hq1
   have el:Bfs.news M ((if near then (if b=a+1∧b < l.length then [b] else []) else (List.range l.length).drop b).map fun b=>sw l a b)=Bfs.news (Bfs.news M [sw l a b]) ((if near then (if b+1=a+1∧b+1 < l.length then [b+1] else []) else (List.range l.length).drop (b+1)).map fun b=>sw l a b):=by
    cases hn:near with
    | true =>
     have:=hok hn
     rw[if_pos rfl,if_pos rfl,if_pos ⟨this,hb⟩,if_neg (by omega)]
     rfl
    | false =>
     rw[if_neg (by decide),if_neg (by decide)]
     have yY:(List.range l.length).drop b=b::(List.range l.length).drop (b+1):=by
      rw[List.drop_eq_getElem_cons (by simpa using hb)];simp
     rw[yY,List.map_cons,WA]
   rw[el]
   refine⟨off2,nn2,c2,q2,hq2,?_⟩
   rw[←e2]
   unfold HV
   have fin:FY (FD (n+1)) L ih0 ih1 (Gn (FD (n+1)) L ih0 ih1 ww) near off nn c (sl 0 l) (Int.ofNat a) (Int.ofNat b) (Int.ofNat l.length) (Int.ofNat a) true (Fh (KV F M)) M.length q=Gn (FD (n+1)) L ih0 ih1 ww near off1 nn1 c1 (sl 0 l) (Int.ofNat a) (Int.ofNat (b+1)) (Int.ofNat l.length) (Int.ofNat a) (Fh (KV F (Bfs.news M [sw l a b]))) (Bfs.news M [sw l a b]).length q1:=by
    rw[e1]
    unfold Jh
    rw[DT,hc1,Ak,Ak,DC b (by omega)]
   rw[I4,Fp hb,Ak]
   cases hn:near with
   | true =>
    have hba:=hok hn
    have e3:Bd (Int.ofNat b) (Aj .i64 (Int.add (Int.ofNat a) 1))=true:=by rw[DC a (by omega),hba];exact V6 _
    rw[show nt true=false from rfl,AA,DT,hc,Ak,Ak,e3]
    rw[hn] at fin
    exact fin
   | false =>
    rw[show nt false=true from rfl,Ak,DT,hc,Ak,Ak]
    rw[hn] at fin
    exact fin
omit h8 hl in
theorem Aad (near:Bool) (n a:Nat):(if near then (if a+1=a+1∧a+1 < n then [a+1] else []) else (List.range n).drop (a+1))=LW near n a:=by
 unfold LW
 cases near with
 | true =>
  rw[if_pos rfl,if_pos rfl]
  by_cases c:a+1 < n
  ·rw[if_pos ⟨rfl,c⟩,if_pos c]
  ·rw[if_neg (fun k=>c k.2),if_neg c]
 | false=>rfl
def JN (near:Bool) (l:List Int) (a:Nat):List (List Int):=((List.range l.length).drop a).flatMap fun a=>(LW near l.length a).map fun b=>sw l a b
omit h8 hl in
theorem Ux {near:Bool} {l:List Int} {a b:Nat} (hab:a < b) (hb:b < l.length) (hn:near=true→b=a+1):sw l a b∈Uw near l:=by
 unfold Uw
 refine List.mem_flatMap.2 ⟨a,List.mem_range.2 (by omega),List.mem_map.2 ⟨b,?_,rfl⟩⟩
 unfold LW
 cases near with
 | true=>rw[if_pos rfl,hn rfl,if_pos (by have:=hn rfl;omega)];simp
 | false =>
  rw[if_neg (by decide),List.mem_iff_getElem]
  refine⟨b - (a+1),by simp;omega,?_⟩
  simp;omega
omit h8 hl in
theorem Ye {α:Type} [DecidableEq α] (xs:List α):∀ (M:List α),(Bfs.news M xs).length≤M.length+xs.length:=by
 induction xs with
 | nil=>intro M;exact Nat.le_refl _
 | cons x xs ih =>
  intro M
  have:=ih (if x∈M then M else M++[x])
  show (Bfs.news (if x∈M then M else M++[x]) xs).length≤_
  have h2:(if x∈M then M else M++[x]).length≤M.length+1:=by split <;> simp
  rw[List.length_cons];omega
omit h8 hl in
theorem oQ (near:Bool) (n a:Nat):(LW near n a).length≤n:=by
 unfold LW
 split
 ·split
  ·simp;omega
  ·simp
 ·simp
omit h8 hl in
theorem oU {near:Bool} {n a b:Nat} (h:b∈LW near n a):a < b∧b < n∧(near=true→b=a+1):=by
 unfold LW at h
 cases near with
 | true =>
  rw[if_pos rfl] at h
  split at h
  ·have:=List.mem_singleton.1 h;exact⟨by omega,by omega,fun _=>this⟩
  ·cases h
 | false =>
  rw[if_neg (by decide)] at h
  obtain⟨k,hk,e⟩:=List.getElem_of_mem h
  simp at e hk
  exact⟨by omega,by omega,fun k=>by cases k⟩
theorem eO (ih0:Bool→Nat→Nat→Nat→List EO→Nat→List Value→Option Value)
 {L0:List (List Int)} {l:List Int} (hlL:l∈L0) (hol:LM w l) (hFl:F l≤1000) (hF:∀ z∈Uw near l,z ∉ L0→F z=F l+1) (hL0:L0.length≤262144) {i:Nat}:∀ (d ww a:Nat) (M:List (List Int)) (off nn c:Nat) (q:List Value),a+d=l.length→d < ww→(∀ x∈L0,x∈M)→(∀ x∈M,LM w x)→M.length≤270000+6*a→QS M i off nn c q →
 ∃ off' nn' c' q', QS (Bfs.news M (JN near l a)) i off' nn' c' q' ∧
  FM (FD (n+1)) L ih0 ww near off nn c (sl 0 l) (Int.ofNat l.length) (Int.ofNat a) (Fh (KV F M)) M.length q=Kc (FD (n+1)) L ih0 near off' nn' c' (Fh (KV F (Bfs.news M (JN near l a)))) (Bfs.news M (JN near l a)).length q'
 | _,0,_,_,_,_,_,_,_,h,_,_,_,_=>by omega
 | 0, ww + 1, a, M, off, nn, c, q, hd, _, hLM, hM, hMl, hq => by
  have hc:=hq.2.2.2.2.2
  have e:JN near l a=[]:=by unfold JN;rw[List.drop_eq_nil_of_le (by simp;omega)];rfl
  rw[e]
  refine⟨off,nn,c,q,hq,?_⟩
  show IB (FD (n+1)) L ih0 (FM (FD (n+1)) L ih0 ww) _ _ _ _ _ _ _ _ _ _=_
  unfold IB
  rw[DT,hc,Ak,Ak,FL (by omega),AA]
  rfl
 | d + 1, ww + 1, a, M, off, nn, c, q, hd, hw, hLM, hM, hMl, hq => by
  have hc:=hq.2.2.2.2.2
  have ha:a < l.length:=by omega
  have hll:l.length≤6:=by rw[hol.1];exact hl
  obtain⟨off1,nn1,c1,q1,hq1,e1⟩:=eH h8 hl near n ih0 (FM (FD (n+1)) L ih0 ww) (L0:=L0) hlL hol ha hFl (fun b hab hb hn k=>hF _ (Ux hab hb hn) k) (by omega) (i:=i) (l.length - (a+1)) L (a+1) M off nn c q (by omega) (by show _ < 1000000;omega) (by omega) hLM hM (by omega) hq
  rw[Aad] at e1 hq1
  have hc1:=hq1.2.2.2.2.2
  have hM1:∀ x∈Bfs.news M ((LW near l.length a).map fun b=>sw l a b),LM w x:=fun x hx=>by
   obtain⟨E,e,h1,_⟩:=Bfs.news_ext ((LW near l.length a).map fun b=>sw l a b) M
   rw[e] at hx
   rcases List.mem_append.1 hx with hx | hx
   ·exact hM x hx
   ·obtain⟨b,hb,rfl⟩:=List.mem_map.1 (h1 x hx).1
    obtain⟨k1,k2,_⟩:=oU hb
    exact OT hol (by omega) k2 (by omega)
  have hlen:=Ye ((LW near l.length a).map fun b=>sw l a b) M
  rw[List.length_map] at hlen
  have hbl:=oQ near l.length a
  obtain⟨off2,nn2,c2,q2,hq2,e2⟩:=eO ih0 hlL hol hFl hF hL0 (i:=i) d ww (a+1) _ off1 nn1 c1 q1 (by omega) (by omega) (fun x hx=>(Bfs.news_has _ M).2 x (hLM x hx)) hM1 (by omega) hq1
  have el:JN near l a=((LW near l.length a).map fun b=>sw l a b)++JN near l (a+1):=by
   unfold JN
   have yY:(List.range l.length).drop a=a::(List.range l.length).drop (a+1):=by
    rw[List.drop_eq_getElem_cons (by simpa using ha)];simp
   rw[yY,List.flatMap_cons]
  rw[el,SI]
  refine⟨off2,nn2,c2,q2,hq2,?_⟩
  rw[←e2]
  show IB (FD (n+1)) L ih0 (FM (FD (n+1)) L ih0 ww) _ _ _ _ _ _ _ _ _ _=_
  unfold IB
  rw[DT,hc,Ak,Ak,Fp ha,Ak,DC a (by omega),e1]
  unfold Ke
  rw[DT,hc1,Ak,Ak,DC a (by omega)]
theorem WB {M:List (List Int)} (hn:M.Nodup) (hM:∀ x∈M,LM w x):M.length≤262144:=by
 have h1:(M.map fun x=>Dy x 0).Nodup:=by
  rw[List.Nodup,List.pairwise_map]
  refine(List.Pairwise.and_mem.1 hn).imp ?_
  rintro a b ⟨ha,hb,hne⟩ e
  exact hne (RQ a b 0 0 (by rw[(hM a ha).1,(hM b hb).1]) (Hz h8 (hM a ha)) (Hz h8 (hM b hb)) e).1
 have:=Ya (M.map fun x=>Dy x 0) (List.range 262144) h1 fun y hy=>by
  obtain⟨x,hx,rfl⟩:=List.mem_map.1 hy
  have h2:=oL x 0 (Hz h8 (hM x hx))
  have h3:(8:Nat) ^ x.length≤8 ^ 6:=Nat.pow_le_pow_right (by decide) (by rw[(hM x hx).1];exact hl)
  rw[List.mem_range]
  have:(8:Nat) ^ 6=262144:=rfl
  omega
 rw[List.length_map,List.length_range] at this
 exact this
theorem eP (W:Bfs.World (Uw near) (LM w) F w) (hFb:∀ x,LM w x→F x≤1000):∀ (d ww i:Nat) (M:List (List Int)) (off nn c:Nat) (q:List Value),Bfs.Inv (Uw near) (LM w) F w M i→262145≤i+d→d < ww→QS M i off nn c q →
 ∃ L',Bfs.Inv (Uw near) (LM w) F w L' L'.length∧Eb (FD (n+1)) L ww near off nn c (Fh (KV F M)) M.length q=some (.tuple ⟨[.map (some 1),Ef (.map (Fh (KV F L')) L'.length)]⟩)
 | _,0,_,_,_,_,_,_,_,_,h,_=>by omega
 | d, ww + 1, i, M, off, nn, c, q, hI, hd, hw, hq => by
  have hc:=hq.2.2.2.2.2
  have hb:=WB h8 hl hI.nd hI.mem
  by_cases hi:i < M.length
  ·have hol:=hI.mem _ (List.getElem_mem hi)
   have hn:nn≠0:=by have:=hq.1;omega
   have hnn:0 < nn:=by omega
   have hd0:0 < d:=by omega
   obtain⟨d',rfl⟩:∃ d',d=d'+1:=⟨d - 1,by omega⟩
   obtain⟨off1,nn1,c1,q1,hq1,e1⟩:=eO h8 hl near n (Eb (FD (n+1)) L ww) (L0:=M) (List.getElem_mem hi) hol (hFb _ hol) (fun z hz k=>Bfs.new_val W hI hi hz k) (by omega) (i:=i) M[i].length L 0 M off nn c q (by omega) (by show _ < 1000000;have:=hol.1;omega) (fun x hx=>hx) hI.mem (by omega) hq
   have hf:JN near M[i] 0=Uw near M[i]:=rfl
   rw[hf] at hq1 e1
   have hI1:=Bfs.inv_step W hI hi
   have hc1:=hq1.2.2.2.2.2
   have hi1:i < (Bfs.news M (Uw near M[i])).length:=by
    obtain⟨E,e,_,_⟩:=Bfs.news_ext (Uw near M[i]) M
    rw[e,List.length_append];omega
   obtain⟨L',hL',e2⟩:=eP W hFb d' ww (i+1) _ _ _ _ q1 hI1 (by omega) (by omega) (oP hq1 hi1)
   refine⟨L',hL',?_⟩
   rw[←e2]
   show I8 (FD (n+1)) L (Eb (FD (n+1)) L ww) _ _ _ _ _ _ _=_
   unfold I8
   have hlt:AY (0:Int) (Int.ofNat nn)=true:=by rw[yS];show (0:Int) < (nn:Int);omega
   rw[DT,hc,Ak,Ak,hlt,Ak,VL hnn,Ak,ZM hq hi,Ac,show Bj 1 (S 0 M[i])=some (sl 0 M[i]) from rfl,Ac,I4]
   refine Eq.trans e1 ?_
   unfold Kc
   have h1n:Nat.ble 1 nn1=true:=Nat.ble_eq_true_of_le (by have:=hq1.1;omega)
   rw[h1n,DT,hc1,Ak,Ak,Ak]
  ·have hle:=hI.le
   have hiM:i=M.length:=by omega
   subst hiM
   have hn:nn=0:=by have:=hq.1;omega
   refine⟨M,hI,?_⟩
   show I8 (FD (n+1)) L (Eb (FD (n+1)) L ww) _ _ _ _ _ _ _=_
   unfold I8
   rw[DT,hc,Ak,Ak,hn,show AY (0:Int) (Int.ofNat 0)=false from rfl,AA]
   unfold Kb
   rw[DT,Ak]
theorem oV (W:Bfs.World (Uw near) (LM w) F w) (hFb:∀ x,LM w x→F x≤1000):∃ L',Bfs.Inv (Uw near) (LM w) F w L' L'.length∧FD (n+2) 10220 [S 0 w,.bool near]=some (.tuple ⟨[.map (some 1),Ef (.map (Fh (KV F L')) L'.length)]⟩):=by
 have e:FD (n+2) 10220 [S 0 w,.bool near]=KT (FD (n+1)) L (sl 0 w) near:=by kernel_rfl
 have e23:FD (n+1) 23 [Sl.v 1 (sl 0 w)]=some (.int .i64 (Int.ofNat (Dy w 0))):=p23 n 0 w h8 hl
 obtain⟨L',hL',e1⟩:=eP h8 hl near n W hFb 262145 L 0 [w] 0 1 2 [S 0 w] (Bfs.inv_start W) (by omega) (by show _ < 1000000;omega) ⟨rfl,rfl,rfl,rfl,rfl,rfl⟩
 refine⟨L',hL',?_⟩
 rw[e];unfold KT
 have hps:KV F [w]=[(Dy w 0,0)]:=by unfold KV;rw[List.map_cons,List.map_nil,W.h0]
 rw[hps] at e1
 rw[e23,Ac,BP,Ac,show GD (.int .i64 (Int.ofNat (Dy w 0))) ([]:List EO) 0=some none from rfl,Ac]
 exact e1
end
end Go.MnNM
namespace Go.MdM
theorem O4 (v:Int):∀ (h:List Int) (c i:Nat),MdV.occ v h c i=occ v h c i
 | [],_,_=>rfl
 | x :: h, c, i => by
  unfold MdV.occ occ
  by_cases e:x=v
  ·rw[if_pos e,if_pos e]
   cases c with
   | zero=>rfl
   | succ c=>exact O4 v h c (i+1)
  ·rw[if_neg e,if_neg e];exact O4 v h c (i+1)
theorem V8 (h:List Int):∀ (w pre:List Int),MdV.srcs h w pre=(sr h w pre).map Int.ofNat
 | [],_=>rfl
 | v :: w, pre => by
  show ((MdV.occ v h (pre.count v) 0:Nat):Int)::MdV.srcs h w (pre++[v])=Int.ofNat (occ v h (pre.count v) 0)::(sr h w (pre++[v])).map Int.ofNat
  rw[O4,V8 h w (pre++[v])];rfl
theorem SK (a:Nat):∀ l:List Nat,MdV.less (Int.ofNat a) (l.map Int.ofNat)=Jw a l
 | []=>rfl
 | b :: l => by
  show (if Int.ofNat b < Int.ofNat a then 1 else 0)+MdV.less (Int.ofNat a) (l.map Int.ofNat)=(if b < a then 1 else 0)+Jw a l
  rw[SK a l]
  congr 1
  by_cases c:b < a
  ·rw[if_pos c,if_pos (show Int.ofNat b < Int.ofNat a from Int.ofNat_lt.2 c)]
  ·rw[if_neg c,if_neg (show ¬ Int.ofNat b < Int.ofNat a from fun k=>c (Int.ofNat_lt.1 k))]
theorem SQ:∀ l:List Nat,MdV.inv (l.map Int.ofNat)=G9 l
 | []=>rfl
 | a :: l => by
  show MdV.less (Int.ofNat a) (l.map Int.ofNat)+MdV.inv (l.map Int.ofNat)=Jw a l+G9 l
  rw[SK,SQ l]
def oW (a:Nat):List Nat→Nat
 | []=>0
 | b::l=>(if a < b then 1 else 0)+oW a l
theorem PO (x:Nat):∀ l:List Nat,G9 (l++[x])=G9 l+oW x l
 | []=>rfl
 | a :: l => by
  show Jw a (l++[x])+G9 (l++[x])=Jw a l+G9 l+((if x < a then 1 else 0)+oW x l)
  rw[PO x l,Nh]
  show Jw a l+((if x < a then 1 else 0)+0)+_=_
  omega
theorem Yf (a:Nat):∀ l:List Nat,Jw a l≤l.length
 | []=>Nat.le_refl _
 | b :: l => by
  have:=Yf a l
  show (if b < a then 1 else 0)+Jw a l≤l.length+1
  split <;> omega
theorem RS:∀ l:List Nat,G9 l≤l.length*l.length
 | []=>Nat.le_refl _
 | a :: l => by
  have h1:=Yf a l
  have h2:=RS l
  show Jw a l+G9 l≤(l.length+1)*(l.length+1)
  rw[Nat.add_mul,Nat.mul_add];omega
theorem WC (w:List Int):∀ (n:Nat) (x:List Int),Dr w x=n→LM w x→X4 w x≤n:=by
 intro n
 induction n with
 | zero =>
  intro x hn h
  by_cases e:x=w
  ·rw[e,SB];exact Nat.le_refl _
  ·obtain⟨p,_,hp⟩:=RP h e;omega
 | succ n ih =>
  intro x hn h
  by_cases e:x=w
  ·rw[e,SB];omega
  ·obtain⟨p,hp,he⟩:=RP h e
   have h2:=OT h (a:=p) (b:=p+1) (by omega) hp (by omega)
   have:=ih (sw x p (p+1)) (by omega) h2
   have:=(oJ h (a:=p) (b:=p+1) (by omega) hp (by omega)).2
   omega
theorem Uy (v:Int) (x:List Int) {p q:Nat} (h:p≤q):(x.take p).count v≤(x.take q).count v:=by
 have e:x.take p=(x.take q).take p:=by rw[List.take_take,Nat.min_eq_left h]
 rw[e];exact(List.take_sublist p (x.take q)).count_le v
theorem ZN {w x:List Int} (h:LM w x) {a b:Nat} (hb:b < a) (ha:a < w.length) (he:w.getD b 0=w.getD a 0):(sr x w []).getD b 0 < (sr x w []).getD a 0:=by
 obtain⟨_,_,a3⟩:=Gp h ha
 obtain⟨_,_,b3⟩:=Gp h (show b < w.length by omega)
 have:=KS (w.getD b 0) w b a hb ha rfl
 rw[he] at b3 this
 apply Classical.byContradiction
 intro c
 have:=Uy (w.getD a 0) x (p:=(sr x w []).getD a 0) (q:=(sr x w []).getD b 0) (by omega)
 omega
end Go.MdM
set_option maxRecDepth 100000
set_option maxHeartbeats 4000000
namespace Go.MnNM
open Go Go.Sp Go.MnN Go.MdM Go.RgP
theorem KJ.ord {K:Nat} {h w:List Int} (t:KJ K h w):LM w h:=⟨by have:=t.len;omega,t.cnt⟩
theorem Yg {K:Nat} {l:List Int} (hK:K≤8) (h:JP K l):TY l:=fun x hx=>by
 obtain⟨a,b⟩:=h x hx
 exact⟨a,by omega⟩
theorem oZ {K:Nat} {h w:List Int} (t:KJ K h w):CY h w=Int.ofNat (X4 w h):=by
 have hl:=t.len
 rw[Ui hl]
 have hm:=QL (N:=h.length) (H:=fn h) (W:=fn w) h.length al (by rw[Ng];exact Nat.le_refl _)
 rw[Ng] at hm
 have e:(fun i=>al i && !decide (fn h i=fn w i))=Nf h w:=by
  funext i
  unfold Nf
  show (true && !decide (fn h i=fn w i)) = !(fn h i == fn w i)
  by_cases c:fn h i=fn w i
  ·simp[c]
  ·simp[c]
 rw[e] at hm
 have h1:=Abi (N:=h.length) (H:=fn h) (W:=fn w) (Nf h w)
 unfold X4
 rw[hl]
 have e2:h.length - M h.length (fl h) (fl w) al=card h.length (Nf h w) - M h.length (fn h) (fn w) (Nf h w):=hm
 rw[e2]
 show ((card h.length (Nf h w):Nat):Int) - ((M h.length (fn h) (fn w) (Nf h w):Nat):Int)=((card h.length (Nf h w) - M h.length (fn h) (fn w) (Nf h w):Nat):Int)
 omega
theorem q31 (k:Nat) (args:List Value):FD (k+1) 31 args=pK (FD k) L args:=by kernel_rfl
theorem Abl (pu:Af) (fl fl':Nat) (k:Int) (h w:List Int):pK pu L [tr fl fl' k h w]=Yt pu L k (sl fl h) (sl fl' w):=by kernel_rfl
theorem p31 (n fl fl':Nat) {K:Nat} {h w:List Int} (t:KJ K h w):FD (n+4) 31 [tr fl fl' K h w]=some (.tuple ⟨[S 0 (MdV.srcs h w []),I 0]⟩):=by
 rw[q31,Abl]
 have e1:=p47 (n+1) fl fl' K h w
 rw[t.chk] at e1
 have e2:=p58 (n+2) fl fl' K h w t.chk
 unfold tr S at e1 e2
 unfold Yt
 simp -implicitDefEqProofs only [e1,e2,Ac,BP,nt0,AA,Dc]
 rfl
section
variable (pu : Af) {K N : Nat} {h w : List Int} {s : List Nat} (hs : s.length = N) (hN : N ≤ 10) (hh : h.length = N) (hw : w.length = N)
 (lt:∀ i,i < N→s.getD i 0 < N) (val:∀ i,i < N→h.getD (s.getD i 0) 0=w.getD i 0) (ne:∀ i j,i < j→j < N→s.getD i 0≠s.getD j 0) (up:∀ b a,b < a→a < N→w.getD b 0=w.getD a 0→s.getD b 0 < s.getD a 0)
def sN (s:List Nat):Sl:=sl 0 (s.map Int.ofNat)
theorem pE (s:List Nat):(sN s).n=s.length:=by show (s.map Int.ofNat).length=_;simp
theorem Yh {s:List Nat} {i:Nat} (h:i < s.length):AL (Sl.cs (sN s)) (i*1)=some (I (Int.ofNat (s.getD i 0))):=by
 rw[BZ,Nat.mul_one];simp[sN,sl,h]
theorem ZO {l:List Int} {i:Nat} (h:i < l.length):AL (Sl.cs (sl 0 l)) (i*1)=some (I (l.getD i 0)):=by
 rw[BZ,Nat.mul_one];simp[sl,h]
include hs hN hw ne up
theorem l76 (ih0:Int→Sl→Int→Int→Int→Int→Sl→Sl→Option Value) (zn:Int) {a:Nat} (ha:a < N):∀ (d ww b cnt:Nat),b+d=a→d < ww→cnt≤1000+b →
 QC pu L ih0 ww zn (sN s) (Int.ofNat cnt) (Int.ofNat a) (Int.ofNat N) (Int.ofNat a) (Int.ofNat a) (Int.ofNat b) (Int.ofNat K) (sl 0 h) (sl 0 w)=ih0 zn (sN s) (Int.ofNat (cnt+oW (s.getD a 0) ((s.take a).drop b))) (Int.ofNat N) (Int.ofNat (a+1)) (Int.ofNat K) (sl 0 h) (sl 0 w)
 | _,0,_,_,_,h,_=>by omega
 | 0, ww + 1, b, cnt, hd, _, _ => by
  show Ue pu L ih0 (QC pu L ih0 ww) _ _ _ _ _ _ _ _ _ _ _=_
  unfold Ue
  rw[FL (by omega),AA,List.drop_eq_nil_of_le (by simp;omega)]
  unfold Yo
  rw[DC a (by omega)]
  rfl
 | d + 1, ww + 1, b, cnt, hd, hwd, hc => by
  have hb:b < a:=by omega
  have hbs:b < s.length:=by omega
  have has:a < s.length:=by omega
  have yY:(s.take a).drop b=s.getD b 0::(s.take a).drop (b+1):=by
   have h1:b < (s.take a).length:=by rw[List.length_take];omega
   rw[List.drop_eq_getElem_cons h1]
   congr 1
   simp[List.getD_eq_getElem?_getD,hbs]
  have e1:Bd (Int.ofNat (s.getD a 0)) (Int.ofNat (s.getD b 0))=false:=by
   rw[Lr];exact decide_eq_false fun k=>ne b a hb ha (Int.ofNat.inj k).symm
  have ih:=fun cnt' hc'=>l76 ih0 zn ha d ww (b+1) cnt' (by omega) (by omega) hc'
  -- the last part
  have fin:Ud pu L ih0 (QC pu L ih0 ww) zn (sN s) (Int.ofNat cnt) (Int.ofNat a) (Int.ofNat b) (Int.ofNat N) (Int.ofNat a) (Int.ofNat a) (Int.ofNat b) false (Int.ofNat K) (sl 0 h) (sl 0 w)=ih0 zn (sN s) (Int.ofNat (cnt+oW (s.getD a 0) ((s.take a).drop b))) (Int.ofNat N) (Int.ofNat (a+1)) (Int.ofNat K) (sl 0 h) (sl 0 w):=by
   unfold Ud
   rw[yY]
   show _=ih0 zn (sN s) (Int.ofNat (cnt+((if s.getD a 0 < s.getD b 0 then 1 else 0)+oW (s.getD a 0) ((s.take a).drop (b+1))))) _ _ _ _ _
   simp only[AA,Cx,Ac,pE,VL hbs,VL has,Ak,Yh hbs,Yh has,BP]
   unfold WU
   by_cases c:s.getD a 0 < s.getD b 0
   ·rw[Fp c,Ak,if_pos c,DC cnt (by omega),DC b (by omega),ih (cnt+1) (by omega),Nat.add_assoc]
   ·rw[FL c,AA,if_neg c,DC b (by omega),ih cnt (by omega),Nat.zero_add]
  rw[←fin]
  show Ue pu L ih0 (QC pu L ih0 ww) _ _ _ _ _ _ _ _ _ _ _=_
  unfold Ue
  have hwn:(sl 0 w).n=w.length:=rfl
  simp only[Fp hb,Cx,Ac,pE,VL hbs,VL has,Ak,Yh hbs,Yh has,BP,e1,AA]
  by_cases c:s.getD a 0 < s.getD b 0
  ·have c2 : Bd (w.getD a 0) (w.getD b 0) = false := by
    rw[Lr];exact decide_eq_false fun k=>by have:=up b a hb ha k.symm;omega
   rw[Fp c]
   simp only[Ak,hwn,VL (show a < w.length by omega),VL (show b < w.length by omega),ZO (show a < w.length by omega),ZO (show b < w.length by omega),Ac,BP,c2]
  ·rw[FL c,AA]
include hh lt val
theorem l73 (zn:Int) (h12:pu 12 []=some (.bool true)) (hz:zn=Int.ofNat (G9 s)):∀ (d ww a:Nat),a+d=N→d < ww→KW pu L ww zn (sN s) (Int.ofNat (G9 (s.take a))) (Int.ofNat N) (Int.ofNat a) (Int.ofNat K) (sl 0 h) (sl 0 w)=some (.bool true)
 | _,0,_,_,h=>by omega
 | 0, ww + 1, a, hd, _ => by
  show Uf pu L (KW pu L ww) _ _ _ _ _ _ _ _=_
  unfold Uf
  rw[FL (by omega),AA,List.take_of_length_le (by omega)]
  unfold WT Wl
  rw[hz,V6,Ak,h12];rfl
 | d + 1, ww + 1, a, hd, hwd => by
  have ha:a < N:=by omega
  have has:a < s.length:=by omega
  have hb1:=RS (s.take a)
  have hlen:(s.take a).length=a:=by rw[List.length_take];omega
  rw[hlen] at hb1
  have hb2:a*a≤10*10:=Nat.mul_le_mul (by omega) (by omega)
  have e6:=l76 (K:=K) (h:=h) pu hs hN hw ne up (KW pu L ww) zn ha a L 0 (G9 (s.take a)) (by omega) (by show _ < 1000000;omega) (by omega)
  have es:G9 (s.take a)+oW (s.getD a 0) ((s.take a).drop 0)=G9 (s.take (a+1)):=by
   rw[List.drop_zero,List.take_succ_eq_append_getElem has,PO]
   congr 2
   simp[List.getD_eq_getElem?_getD,has]
  rw[es,l73 zn h12 hz d ww (a+1) (by omega) (by omega)] at e6
  rw[←e6]
  show Uf pu L (KW pu L ww) _ _ _ _ _ _ _ _=_
  unfold Uf
  have hwn:(sl 0 w).n=w.length:=rfl
  have hhn:(sl 0 h).n=h.length:=rfl
  have hlt:=lt a ha
  have hlh:s.getD a 0 < h.length:=by omega
  have h0:AY (Int.ofNat (s.getD a 0)) (0:Int)=false:=by rw[yT];show ¬ ((s.getD a 0:Nat):Int) < 0;omega
  have hN1:AY (Int.ofNat (s.getD a 0)) (Int.ofNat s.length)=true:=Fp (by omega)
  simp only[Fp ha,Cx,Ac,pE,VL has,Ak,Yh has,BP,h0,AA,hN1,show nt true=false from rfl,hhn,hwn,VL hlh,ZO hlh,VL (show a < w.length by omega),ZO (show a < w.length by omega),val a ha,V6]
  unfold Wm
  rw[AA]
  rfl
end
theorem Aae (x:Int):nt (Bd x x)=false:=by rw[V6];rfl
theorem q7 (k:Nat) (args:List Value):FD (k+1) 7 args=m7 (FD k) L args:=by kernel_rfl
theorem p12 (n:Nat):FD (n+1) 12 []=some (.bool true):=by kernel_rfl
theorem Yi (n:Nat) (q:List Value) (x:Nat→Int) (hl:len q=22) (hq:∀ i,i < 22→AL q i=some (.int .u8 (x i))) (hc:Au Ah q=true) (hx:∀ i,0≤x i∧x i < 256) (h2:Au closed2 [.agg ⟨q⟩,.int .i64 6,.int .i64 4]=true) (ht:Aq 22 (Am 0 q)=q) :
 FD (n+32) 7 [.agg ⟨q⟩]=some (.bool true):=by
 obtain⟨K,h,w,e1,t0,h6,hK⟩:=ZE (n+30) q x hl hq hc hx
 have hlw:=t0.len
 have ord:=t0.ord
 have h8:=Yg (by omega) t0.iw
 have h8h:=Yg (by omega) t0.ih
 have hw6:w.length≤6:=by omega
 have W:Bfs.World (Uw true) (LM w) (Dr w) w:=by
  have e:Uw true=nbn:=funext Aac
  rw[e];exact oK w
 have hFb:∀ y,LM w y→Dr w y≤1000:=fun y _=>by
  have h1:=RS (sr y w [])
  rw[K3] at h1
  have:w.length*w.length≤6*6:=Nat.mul_le_mul hw6 hw6
  unfold Dr;omega
 obtain⟨L',hI,e2⟩:=oV h8 hw6 true (n+29) W hFb
 have hmem:=Bfs.inv_end W hI _ h rfl ord
 obtain⟨j,pl⟩:=LU (F:=Dr w) (n:=w.length) ord.1 h8h L' (fun y hy=>⟨(hI.mem y hy).1,Hz h8 (hI.mem y hy)⟩) hmem
 have fk:=KZ (Dy h 0) (KV (Dr w) L')
 rw[pl] at fk
 have fk:GD (.int .i64 (Int.ofNat (Dy h 0))) (Fh (KV (Dr w) L')) 0=some (some (j,IV (Int.ofNat (Dr w h)))):=fk
 have e3:=p30 (n+27) 0 0 t0
 have e4:=p31 (n+27) 0 0 t0
 have e5:=p29 (n+14) 0 0 K h w t0.ok t0.chk
 rw[oZ t0] at e5
 have e6:FD (n+31) 23 [Sl.v 1 (sl 0 h)]=some (.int .i64 (Int.ofNat (Dy h 0))):=p23 (n+30) 0 h h8h h6
 have hsr:=V8 h w []
 rw[hsr] at e3 e4
 rw[SQ] at e3
 have hlen:=K3 h w []
 have hFN:=WC w _ h rfl ord
 have last:=l73 (K:=K) (FD (n+31)) (s:=sr h w []) (N:=w.length) (h:=h) (w:=w) hlen (by omega) (by omega) rfl (fun i hi=>(Gp ord hi).1) (fun i hi=>(Gp ord hi).2.1) (fun i j hij hj=>OX ord (by omega) hj hij) (fun b a hb ha he=>ZN ord hb ha he) (Int.ofNat (Dr w h)) (p12 (n+30)) rfl w.length L 0 (by omega) (by show _ < 1000000;omega)
 unfold tr S at e1 e3 e4 e5
 unfold S at e2
 have ec:((K:Nat):Int)=Int.ofNat K:=rfl
 rw[ec] at e1 e3 e4 e5
 rw[q7]
 have e0:m7 (FD (n+31)) L [.agg ⟨q⟩]=vL (FD (n+31)) L q:=by
  show bb (an (Nat.beq (len q) 22) (Au Ah q)) (vL (FD (n+31)) L q) none=_
  rw[hl,hc];rfl
 rw[e0]
 have hb:Nat.ble (0+22) (len q)=true:=by rw[hl];rfl
 have hvm:Fj (Ef (.map (Fh (KV (Dr w) L')) L'.length))=some ⟨Fh (KV (Dr w) L'),L'.length⟩:=CX _ _
 have him:FC (.map (some 1)) 1=true:=rfl
 have h3:Au closed2 [.agg ⟨q⟩,I 6,I 4]=true:=h2
 have hnr:G9 (sr h w [])=Dr w h:=rfl
 rw[hnr] at e3
 have hn2:∀ z:Int,Int.ofNat (Sl.n (sl 0 ((sr h w []).map Int.ofNat)))=Int.ofNat w.length:=fun _=>by show Int.ofNat ((sr h w []).map Int.ofNat).length=_;rw[List.length_map,hlen]
 have hn3:Int.ofNat (Sl.n (sl 0 h))=Int.ofNat w.length:=by show Int.ofNat h.length=_;rw[hlw]
 unfold vL
 rw[hc,Ak,hb,Ak,ht,e1,Ac,RL,Ac,Dj,Dj,Dj,EG,BP,Ac,Dc,Ac,Dc,Ac,h3,Ak,e2,Ac,FW,Ac,Dj,Dj,EG,him,Ak,hvm,Ac]
 rw[DT,Ak,Ak,e3,Ac,FW,Ac,Dj,Dj,EG,BP,Ac,BP,Ac,e4,Ac,FW,Ac,Dj,Dj,EG,Dc,Ac,BP,Ac,e5,Ac,FW,Ac,Dj,Dj,EG,BP,Ac,BP,Ac,nt0,AA,AA,AA,e6,Ac,BP,Ac,fk,Ac,Uq,Ac,Aae,AA]
 have hk:AY (Int.ofNat (Dr w h)) (Int.ofNat (X4 w h))=false:=FL (by omega)
 rw[hk,AA,hn2 0,hn3,Aae]
 unfold QD
 rw[AA,hn2 0]
 have ht0:(sr h w []).take 0=[]:=rfl
 rw[ht0] at last
 exact last
theorem Uz (l:List Int) (h22:l.length=22) (hl:∀ z∈l,0≤z∧z < 256):FD 32 7 [.agg ⟨l.map (Value.int .u8)⟩]=some (.bool true):=by
 have hc:Au Ah (l.map (Value.int .u8))=true:=by
  rw[Bh,List.all_eq_true]
  intro v hv
  obtain⟨z,_,rfl⟩:=List.mem_map.1 hv
  rfl
 refine Yi 0 (l.map (Value.int .u8)) (fun i=>l.getD i 0) (by rw[AV,List.length_map,h22]) (fun i hi=>?_) hc (Abh hl) ?_ ?_
 ·rw[BZ,List.getElem?_map,List.getElem?_eq_getElem (by omega)]
  simp[List.getD_eq_getElem?_getD,show i < l.length from by omega]
 ·show Au closed2 _=true
  match l,h22 with
  | [a0,a1,a2,a3,a4,a5,a6,a7,a8,a9,b0,b1,b2,b3,b4,b5,b6,b7,b8,b9,c0,c1],_=>rfl
 ·rw[Cg,Bz,List.drop_zero,List.take_of_length_le (by simp[h22])]
end Go.MnNM
