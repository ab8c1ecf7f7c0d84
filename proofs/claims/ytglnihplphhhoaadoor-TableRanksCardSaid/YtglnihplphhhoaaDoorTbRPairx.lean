/- Made from wip. -/
import Derived.Test.YtglnihplphhhoaaDoorTbRLaw7x
import Derived.KernelRfl
import Derived.Test.YtglnihplphhhoaaDoorSpObjx

set_option maxRecDepth 100000
namespace Go.TM
theorem Gv:∀ (l:List Int) (a:Int),l.foldl min a≤a∧(∀ x∈l,l.foldl min a≤x)∧(l.foldl min a=a∨l.foldl min a∈l)
 | [],a=>⟨Int.le_refl _,(fun _ h=>absurd h List.not_mem_nil),.inl rfl⟩
 | x :: l, a => by
  obtain⟨h1,h2,h3⟩:=Gv l (min a x)
  show l.foldl min (min a x)≤a∧_
  refine⟨by omega,fun y hy=>?_,?_⟩
  ·show l.foldl min (min a x)≤y
   rcases List.mem_cons.1 hy with rfl | hy
   ·omega
   ·exact h2 y hy
  ·show l.foldl min (min a x)=a∨l.foldl min (min a x)∈x::l
   rcases h3 with h3 | h3
   ·rw[h3]
    by_cases c:a≤x
    ·exact .inl (Int.min_eq_left c)
    ·exact .inr (by rw[Int.min_eq_right (by omega)];simp)
   ·exact .inr (List.mem_cons_of_mem _ h3)
theorem Gw:∀ (l:List Int) (a:Int),a≤l.foldl max a∧(∀ x∈l,x≤l.foldl max a)∧(l.foldl max a=a∨l.foldl max a∈l)
 | [],a=>⟨Int.le_refl _,(fun _ h=>absurd h List.not_mem_nil),.inl rfl⟩
 | x :: l, a => by
  obtain⟨h1,h2,h3⟩:=Gw l (max a x)
  show a≤l.foldl max (max a x)∧_
  refine⟨by omega,fun y hy=>?_,?_⟩
  ·show y≤l.foldl max (max a x)
   rcases List.mem_cons.1 hy with rfl | hy
   ·omega
   ·exact h2 y hy
  ·show l.foldl max (max a x)=a∨l.foldl max (max a x)∈x::l
   rcases h3 with h3 | h3
   ·rw[h3]
    by_cases c:x≤a
    ·exact .inl (Int.max_eq_left c)
    ·exact .inr (by rw[Int.max_eq_right (by omega)];simp)
   ·exact .inr (List.mem_cons_of_mem _ h3)
theorem Uq {l m:List Int} {a:Int} (h1:∀ x∈l,∃ y∈m,y≤x) (h2:∀ y∈m,∃ x∈l,x≤y):l.foldl min a=m.foldl min a:=by
 obtain⟨a1,a2,a3⟩:=Gv l a
 obtain⟨b1,b2,b3⟩:=Gv m a
 refine Int.le_antisymm ?_ ?_
 ·rcases b3 with e | e
  ·rw[e];exact a1
  ·obtain⟨x,hx,hxy⟩:=h2 _ e
   exact Int.le_trans (a2 x hx) hxy
 ·rcases a3 with e | e
  ·rw[e];exact b1
  ·obtain⟨y,hy,hyx⟩:=h1 _ e
   exact Int.le_trans (b2 y hy) hyx
theorem Uw {l m:List Int} {a:Int} (h1:∀ x∈l,∃ y∈m,x≤y) (h2:∀ y∈m,∃ x∈l,y≤x):l.foldl max a=m.foldl max a:=by
 obtain⟨a1,a2,a3⟩:=Gw l a
 obtain⟨b1,b2,b3⟩:=Gw m a
 refine Int.le_antisymm ?_ ?_
 ·rcases a3 with e | e
  ·rw[e];exact b1
  ·obtain⟨y,hy,hyx⟩:=h1 _ e
   exact Int.le_trans hyx (b2 y hy)
 ·rcases b3 with e | e
  ·rw[e];exact a1
  ·obtain⟨x,hx,hxy⟩:=h2 _ e
   exact Int.le_trans hxy (a2 x hx)
def ZK:List Int→Bool
 | []=>true
 | [_]=>true
 | x::y::l=>decide (x≤y) && ZK (y::l)
theorem QK:∀ {l:List Int},OH l→ZK l=true
 | [],_=>rfl
 | [_],_=>rfl
 | x :: y :: l, h => by
  show (decide (x≤y) && ZK (y::l))=true
  rw[QK (Ul h),decide_eq_true (Um h y (by simp))];rfl
def VV (N:Nat):List Int:=(List.range N).map Int.ofNat
def Ux (N:Nat):Bool:=(Dn N N []).all fun p=>((List.range (N+1)).all fun θ=>zeros (p.map fun x=>if Int.ofNat θ≤x then (1:Int) else 0) == θ) && (p.all fun x=>decide (0≤x) && decide (x < Int.ofNat N)) && (!(ZK p) || p == VV N) && decide p.Nodup
theorem Uy:(List.range 6).all Ux=true:=by kernel_rfl
theorem IB {N:Nat} (hN:N≤5) {p:List Int} (hp:p∈Dn N N []):(∀ θ,θ≤N→zeros (p.map fun x=>if Int.ofNat θ≤x then (1:Int) else 0)=θ)∧(∀ x∈p,0≤x∧x < (N:Int))∧(OH p→p=VV N)∧p.Nodup:=by
 have h:=Uy
 rw[List.all_eq_true] at h
 have h:=h N (List.mem_range.2 (by omega))
 unfold Ux at h
 rw[List.all_eq_true] at h
 have h:=h p hp
 rw[Bool.and_eq_true,Bool.and_eq_true,Bool.and_eq_true,List.all_eq_true,List.all_eq_true] at h
 obtain⟨⟨⟨h1,h2⟩,h3⟩,h4⟩:=h
 refine⟨fun θ hθ=>by simpa using h1 θ (List.mem_range.2 (by omega)),fun x hx=>by simpa using h2 x hx,fun hs=>?_,by simpa using h4⟩
 rw[QK hs] at h3
 simpa using h3
theorem Pe {N:Nat} {C:List (Int×Int)} (hC:I9 N C):(∀ x∈Dn N N [],OH (runs x C))↔Jg N C:=by
 constructor
 ·intro h
  rw[←O4 hC]
  intro m _
  have hl:=Eo N m
  have h01:=O9 N m
  generalize plain N m=l at hl h01
  have hz:=Iq l
  have hp:pr 0 (zeros l) l∈Dn N N []:=by
   have:=Jv N N [] (pr 0 (zeros l) l) (by rw[LU];exact hl) (fun e he=>by rcases Ke l 0 (zeros l) e he with h1 | h1 <;> omega) (by rw[List.nil_append];exact Jw l 0 (zeros l) (by omega))
   rwa [List.nil_append] at this
  have hs:=h _ hp
  have hf:mono (fun x=>if (zeros l:Int)≤x then 1 else 0):=by
   intro a b hab
   by_cases c1:(zeros l:Int)≤a
   ·simp only[if_pos c1,if_pos (Int.le_trans c1 hab)];exact Int.le_refl _
   ·simp only[if_neg c1];split <;> omega
  have hm:=FN hf C (pr 0 (zeros l) l) hC (by rw[LU];exact hl)
  rw[OC l 0 (zeros l) (zeros l) h01 (by omega) (Nat.le_refl _)] at hm
  rw[hm]
  exact VU hf hs
 ·intro h x hx
  exact h x (by have:=Gu N N [] x hx;simpa using this)
section
variable {N:Nat} {C:List (Int×Int)}
theorem Kg (hN:N≤5) (hC:I9 N C) {p:List Int} (hp:p∈Dn N N []):runs p C∈Dn N N []:=by
 obtain⟨_,h2,_,h4⟩:=IB hN hp
 have hpl:p.length=N:=by have:=Gu N N [] p hp;simpa using this
 have hq:=ML C p hC hpl
 have:=Jv N N [] (runs p C) (by rw[Cs];exact hpl) (fun e he=>h2 e (hq.mem_iff.1 he)) (by rw[List.nil_append];exact hq.nodup_iff.2 h4)
 rwa [List.nil_append] at this
def Jd (N:Nat) (C:List (Int×Int)) (i:Nat):List Int:=(Dn N N []).map fun p=>(runs p C).getD i 0
def ZL (N:Nat) (C:List (Int×Int)) (i:Nat):List Int:=((List.range (2 ^ N)).filter fun m=>decide ((runs (plain N m) C).getD i 0=0)).map fun m=>(zeros (plain N m):Int) - 1
def ZM (N:Nat) (C:List (Int×Int)) (i:Nat):List Int:=((List.range (2 ^ N)).filter fun m=>!decide ((runs (plain N m) C).getD i 0=0)).map fun m=>(zeros (plain N m):Int)
theorem QL {p:List Int} (θ:Int) (hp:p.length=N):∃ m,m < 2 ^ N∧plain N m=p.map fun x=>if θ≤x then (1:Int) else 0:=by
 have hl:(p.map fun x=>if θ≤x then (1:Int) else 0).length=N:=by rw[List.length_map,hp]
 have h01:∀ j,j < (p.map fun x=>if θ≤x then (1:Int) else 0).length→(p.map fun x=>if θ≤x then (1:Int) else 0).getD j 0=0∨(p.map fun x=>if θ≤x then (1:Int) else 0).getD j 0=1:=fun j hj=>by
  rw[hl] at hj
  rw[getD_map _ _ _ (by omega)]
  split
  ·exact .inr rfl
  ·exact .inl rfl
 refine⟨num (p.map fun x=>if θ≤x then (1:Int) else 0),?_,?_⟩
 ·have:=Ow (p.map fun x=>if θ≤x then (1:Int) else 0)
  rwa [hl] at this
 ·have:=MI _ h01
  rwa [hl] at this
theorem row_of {m:Nat}:∃ p,p∈Dn N N []∧p.map (fun x=>if (zeros (plain N m):Int)≤x then (1:Int) else 0)=plain N m∧p.length=N:=by
 have hl:=Eo N m
 have h01:=O9 N m
 generalize plain N m=l at hl h01
 have hz:=Iq l
 refine⟨pr 0 (zeros l) l,?_,OC l 0 (zeros l) (zeros l) h01 (by omega) (Nat.le_refl _),by rw[LU];exact hl⟩
 have:=Jv N N [] (pr 0 (zeros l) l) (by rw[LU];exact hl) (fun e he=>by rcases Ke l 0 (zeros l) e he with h1 | h1 <;> omega) (by rw[List.nil_append];exact Jw l 0 (zeros l) (by omega))
 rwa [List.nil_append] at this
theorem PK (hN:N≤5) (hC:I9 N C) {i:Nat} (hi:i < N) (a:Int):(Jd N C i).foldl min a=(ZL N C i).foldl min a:=by
 refine Uq (fun x hx=>?_) fun y hy=>?_
 ·obtain⟨p,hp,rfl⟩:=List.mem_map.1 hx
  have hpl:p.length=N:=by have:=Gu N N [] p hp;simpa using this
  have hr:=IB hN (Kg hN hC hp)
  have hv : 0 ≤ (runs p C).getD i 0 ∧ (runs p C).getD i 0 < (N : Int) := hr.2.1 _ (by
   rw[List.getD_eq_getElem?_getD,List.getElem?_eq_getElem (by rw[Cs,hpl];exact hi)];exact List.getElem_mem _)
  obtain⟨v,hv'⟩:=Int.eq_ofNat_of_zero_le hv.1
  obtain⟨m,hm,e⟩:=QL (N:=N) (Int.ofNat (v+1)) hpl
  have hrun:runs (plain N m) C=(runs p C).map fun x=>if Int.ofNat (v+1)≤x then (1:Int) else 0:=by rw[e];exact FN (JN _) C p hC hpl
  have hz:zeros (plain N m)=v+1:=by rw[e];exact(IB hN hp).1 (v+1) (by omega)
  refine⟨(zeros (plain N m):Int) - 1,List.mem_map.2 ⟨m,List.mem_filter.2 ⟨List.mem_range.2 hm,?_⟩,rfl⟩,?_⟩
  ·rw[hrun,getD_map _ _ _ (by rw[Cs,hpl];exact hi),hv',if_neg (by show ¬ ((v+1:Nat):Int)≤(v:Int);omega)];rfl
  ·rw[hz,hv'];show ((v+1:Nat):Int) - 1≤(v:Int);omega
 ·obtain⟨m,hm,rfl⟩:=List.mem_map.1 hy
  obtain⟨hm1,hm2⟩:=List.mem_filter.1 hm
  have hm2:=of_decide_eq_true hm2
  obtain⟨p,hp,e,hpl⟩:=row_of (N:=N) (m:=m)
  have hrun:runs (plain N m) C=(runs p C).map fun x=>if (zeros (plain N m):Int)≤x then (1:Int) else 0:=by
   have:=FN (JN (zeros (plain N m):Int)) C p hC hpl
   rw[e] at this;exact this
  refine⟨(runs p C).getD i 0,List.mem_map.2 ⟨p,hp,rfl⟩,?_⟩
  rw[hrun,getD_map _ _ _ (by rw[Cs,hpl];exact hi)] at hm2
  by_cases c:(zeros (plain N m):Int)≤(runs p C).getD i 0
  ·rw[if_pos c] at hm2;cases hm2
  ·omega
theorem RY (hN:N≤5) (hC:I9 N C) {i:Nat} (hi:i < N) (a:Int):(Jd N C i).foldl max a=(ZM N C i).foldl max a:=by
 refine Uw (fun x hx=>?_) fun y hy=>?_
 ·obtain⟨p,hp,rfl⟩:=List.mem_map.1 hx
  have hpl:p.length=N:=by have:=Gu N N [] p hp;simpa using this
  have hr:=IB hN (Kg hN hC hp)
  have hv : 0 ≤ (runs p C).getD i 0 ∧ (runs p C).getD i 0 < (N : Int) := hr.2.1 _ (by
   rw[List.getD_eq_getElem?_getD,List.getElem?_eq_getElem (by rw[Cs,hpl];exact hi)];exact List.getElem_mem _)
  obtain⟨v,hv'⟩:=Int.eq_ofNat_of_zero_le hv.1
  obtain⟨m,hm,e⟩:=QL (N:=N) (Int.ofNat v) hpl
  have hrun:runs (plain N m) C=(runs p C).map fun x=>if Int.ofNat v≤x then (1:Int) else 0:=by rw[e];exact FN (JN _) C p hC hpl
  have hz:zeros (plain N m)=v:=by rw[e];exact(IB hN hp).1 v (by omega)
  refine⟨(zeros (plain N m):Int),List.mem_map.2 ⟨m,List.mem_filter.2 ⟨List.mem_range.2 hm,?_⟩,rfl⟩,?_⟩
  ·rw[hrun,getD_map _ _ _ (by rw[Cs,hpl];exact hi),hv',if_pos (by show (v:Int)≤(v:Int);omega)];rfl
  ·rw[hz,hv'];exact Int.le_refl _
 ·obtain⟨m,hm,rfl⟩:=List.mem_map.1 hy
  obtain⟨hm1,hm2⟩:=List.mem_filter.1 hm
  have hm2:¬ (runs (plain N m) C).getD i 0=0:=by simpa using hm2
  obtain⟨p,hp,e,hpl⟩:=row_of (N:=N) (m:=m)
  have hrun:runs (plain N m) C=(runs p C).map fun x=>if (zeros (plain N m):Int)≤x then (1:Int) else 0:=by
   have:=FN (JN (zeros (plain N m):Int)) C p hC hpl
   rw[e] at this;exact this
  refine⟨(runs p C).getD i 0,List.mem_map.2 ⟨p,hp,rfl⟩,?_⟩
  rw[hrun,getD_map _ _ _ (by rw[Cs,hpl];exact hi)] at hm2
  by_cases c:(zeros (plain N m):Int)≤(runs p C).getD i 0
  ·exact c
  ·rw[if_neg c] at hm2;exact absurd rfl hm2
theorem VW {i:Nat} (hi:i < N):(VV N).getD i 0=Int.ofNat i:=by
 unfold VV
 rw[List.getD_eq_getElem?_getD,List.getElem?_map,List.getElem?_range hi];rfl
theorem PL (hN:N≤5) (hC:I9 N C):(∀ i,i < N→(Jd N C i).foldl min (N:Int)=Int.ofNat i∧(Jd N C i).foldl max (0:Int)=Int.ofNat i)↔Jg N C:=by
 rw[←Pe hC]
 constructor
 ·intro h p hp j h1 h2 h3
  have hpl:p.length=N:=by have:=Gu N N [] p hp;simpa using this
  rw[Cs,hpl] at h2
  have k:∀ i,i < N→(runs p C).getD i 0=Int.ofNat i:=fun i hi=>by
   obtain⟨e1,e2⟩:=h i hi
   have hx:(runs p C).getD i 0∈Jd N C i:=List.mem_map.2 ⟨p,hp,rfl⟩
   have b1:=(Gv (Jd N C i) (N:Int)).2.1 _ hx
   have b2:=(Gw (Jd N C i) 0).2.1 _ hx
   rw[e1] at b1
   rw[e2] at b2
   exact Int.le_antisymm b2 b1
  rw[k j h2,k (j - 1) (by omega)] at h3
  have h3:((j:Nat):Int) < ((j - 1:Nat):Int):=h3
  omega
 ·intro h i hi
  have k:∀ x∈Jd N C i,x=Int.ofNat i:=fun x hx=>by
   obtain⟨p,hp,rfl⟩:=List.mem_map.1 hx
   rw[(IB hN (Kg hN hC hp)).2.2.1 (h p hp),VW hi]
  obtain⟨p,hp,_,_⟩:=row_of (N:=N) (m:=0)
  have hx:(runs p C).getD i 0∈Jd N C i:=List.mem_map.2 ⟨p,hp,rfl⟩
  have hx2:=k _ hx
  obtain⟨a1,a2,a3⟩:=Gv (Jd N C i) (N:Int)
  obtain⟨b1,b2,b3⟩:=Gw (Jd N C i) 0
  constructor
  ·rcases a3 with e | e
   ·have:=a2 _ hx
    rw[e,hx2] at this
    have this:(N:Int)≤(i:Int):=this
    omega
   ·exact k _ e
  ·rcases b3 with e | e
   ·have:=b2 _ hx
    rw[e,hx2] at this
    rw[e]
    have this:(i:Int)≤0:=this
    show (0:Int)=(i:Int)
    omega
   ·exact k _ e
end
end Go.TM
set_option maxRecDepth 100000
set_option maxHeartbeats 4000000
namespace Go.TbRM
open Go Go.Sp Go.TbR Go.TM
noncomputable def VY (f:Nat→Bool) (n:Nat):Bool:=Nat.rec (motive:=fun _=>Bool) true (fun i ih=>an (f i) ih) n
theorem LX {f:Nat→Bool}:∀ {n:Nat},VY f n=true→∀ i,i < n→f i=true
 | 0,_,i,h=>by omega
 | n + 1, h, i, hi => by
  have h:an (f n) (VY f n)=true:=h
  rw[CF,Bool.and_eq_true] at h
  by_cases e:i=n
  ·subst e;exact h.1
  ·exact LX h.2 i (by omega)
theorem ZN (n fl N:Nat) (C:List (Int×Int)) (h1:1≤N) (h7:N≤7) (hl:C.length≤24) (hC:I9 N C) (hc:WM (Int.ofNat N) C=0) :
 BI (n+4) 10 [tb fl (Int.ofNat N) C]=some (.tuple ⟨[.bool (Oz (Jg N C)),I 0]⟩):=by
 obtain⟨b,hb,hall⟩:=O8 N h1 h7
 obtain⟨z,hz,hbad⟩:=p22 (n+1) N h1 h7 (HV b C) (Ha C b hb.1)
 rw[xY n fl N C h1 h7 hl hC hc b hb.1 hall z hz]
 have hiff:AY z 0=Oz (Jg N C):=by
  have hw:=Ha C b hb.1
  rcases Uh h1 hbad with⟨rfl,hs⟩ | ⟨m0,rfl,hm,hns,_⟩
  ·rw[KJ ((MM h1 h7 hb hC).1 ((Jb hw h1).1 hs))];rfl
  ·rw[KS (fun h=>hns ((Jb hw h1).2 ((MM h1 h7 hb hC).2 h) m0 hm))]
   rw[MF]
   show ¬ ((m0:Int) < 0)
   omega
 rw[hiff]

theorem Uz (n:Nat):VY (fun N=>VY (fun m=>uS (BI (n+2) 21 [.int .u64 (Aj .u64 (Int.ofNat m))]) (N - zeros (plain N m))) (Nat.pow 2 N)) 6=true:=by kernel_rfl
theorem p21 (n:Nat) {N m:Nat} (hN:N≤5) (hm:m < 2 ^ N):BI (n+2) 21 [.int .u64 (Aj .u64 (Int.ofNat m))]=some (I (Int.ofNat (N - zeros (plain N m)))):=Ue (LX (LX (Uz n) N (by omega)) m hm)
theorem yB {x k:Nat} (hx:x < 2 ^ 64) (hk:k < 64):Bd (Np .u64 (G6 .u64 (Int.ofNat x) k) (1:Int)) 0 = !x.testBit k:=by
 have e1:G6 .u64 (Int.ofNat x) k=Int.ofNat (x / 2 ^ k):=by
  show Int.ofNat (Nat.div x (Nat.pow 2 (Nat.min k 64)))=_
  rw[show Nat.min k 64=k from Nat.min_eq_left (by omega)];rfl
 rw[e1,show (1:Int)=Int.ofNat 1 from rfl,T9 _ _ (Nat.lt_of_le_of_lt (Nat.div_le_self _ _) hx) (by decide),Nat.testBit_eq_decide_div_mod_eq]
 show Bd (Int.ofNat (x / 2 ^ k &&& 1)) 0=_
 rw[Nat.and_one_is_mod]
 by_cases h:x / 2 ^ k % 2=1
 ·rw[h];rfl
 ·have:x / 2 ^ k % 2=0:=by omega
  rw[this];rfl
section
variable {N i:Nat} {C:List (Int×Int)} {b:List Nat}
def zD (N:Nat) (C:List (Int×Int)) (i m:Nat):List Int:=(((List.range (2 ^ N)).drop m).filter fun m=>decide ((runs (plain N m) C).getD i 0=0)).map fun m=>(zeros (plain N m):Int) - 1
def oD (N:Nat) (C:List (Int×Int)) (i m:Nat):List Int:=(((List.range (2 ^ N)).drop m).filter fun m=>!decide ((runs (plain N m) C).getD i 0=0)).map fun m=>(zeros (plain N m):Int)
theorem l9 (n M fl:Nat) (hN:N≤5) (hi:i < N) (hw:wd b) (hb:∀ m,m < 2 ^ N→Dr b N m=runs (plain N m) C):∀ (d w m:Nat) (lo hi':Int),m+d=2 ^ N→d < w →
 Ps (BI (n+2)) M w (Int.ofNat i) lo hi' (Int.ofNat (2 ^ N)) (Int.ofNat m) (Int.ofNat N) (cl fl C) (W b)=some (.tuple ⟨[I ((zD N C i m).foldl min lo),I ((oD N C i m).foldl max hi'),I 0]⟩)
 | _,0,_,_,_,_,h=>by omega
 | 0, w + 1, m, lo, hi', hd, _ => by
  show Pq (BI (n+2)) M (Ps (BI (n+2)) M w) _ _ _ _ _ _ _ _=_
  unfold Pq
  have e1:zD N C i m=[]:=by unfold zD;rw[List.drop_eq_nil_of_le (by simp;omega)];rfl
  have e2:oD N C i m=[]:=by unfold oD;rw[List.drop_eq_nil_of_le (by simp;omega)];rfl
  rw[Dy,Ak,CY (by omega),AA,e1,e2];rfl
 | d + 1, w + 1, m, lo, hi', hd, hwd => by
  have hm:m < 2 ^ N:=by omega
  have hp:2 ^ N≤2 ^ 5:=Nat.pow_le_pow_right (by omega) hN
  have hp5:(2:Nat) ^ 5=32:=rfl
  have yY:(List.range (2 ^ N)).drop m=m::(List.range (2 ^ N)).drop (m+1):=by
   rw[List.drop_eq_getElem_cons (by simpa using hm)];simp
  have hz:=Iq (plain N m)
  rw[Eo] at hz
  have h21:=p21 n hN hm
  have hdiv:Aj .i64 (Int.tdiv (Int.ofNat m) (64:Int))=Int.ofNat (m / 64):=by
   rw[show Int.tdiv (Int.ofNat m) (64:Int)=Int.ofNat (m / 64) from rfl];exact wN _ (by omega)
  have hmod:Int.tmod (Int.ofNat m) (64:Int)=Int.ofNat (m % 64):=rfl
  have hget:AL (W b) (0+i*2+m / 64*1)=some (U (b.getD (i*2+m / 64) 0)):=by
   rw[Nat.zero_add,Nat.mul_one];exact O7 b _ (by rw[hw.1];omega)
  have hbit:Bd (Np .u64 (G6 .u64 (Int.ofNat (b.getD (i*2+m / 64) 0)) (m % 64)) (1:Int)) 0=decide ((runs (plain N m) C).getD i 0=0):=by
   rw[yB (Eb hw _) (by omega),←hb m hm,Fp b N m i hi]
   show (!bit b i m)=_
   cases bit b i m <;> rfl
  have hsub:Aj .i64 (Int.sub (Int.ofNat N) (Int.ofNat (N - zeros (plain N m))))=Int.ofNat (zeros (plain N m)):=by rw[VL N _ (by omega) (by omega)];congr 1;omega
  have hsub1:Aj .i64 (Int.sub (Int.ofNat (zeros (plain N m))) 1)=(zeros (plain N m):Int) - 1:=by
   show Aj .i64 ((zeros (plain N m):Int) - 1)=_
   exact Oe _ (by show (-9223372036854775808:Int)≤_;omega) (by show _≤(9223372036854775807:Int);omega)
  have ih:=fun lo hi'=>l9 n M fl hN hi hw hb d w (m+1) lo hi' (by omega) (by omega)
  show Pq (BI (n+2)) M (Ps (BI (n+2)) M w) _ _ _ _ _ _ _ _=_
  unfold Pq Sg
  rw[Dy,Ak,C8 hm,Ak,h21,Ac,BP,Ac,hdiv,Cx,Ac,Cx,Ac,show Nat.blt i 7=true from by rw[blt_eq];exact decide_eq_true (by omega),Ak,show Nat.blt (m / 64) 2=true from by rw[blt_eq];exact decide_eq_true (by omega),Ak,hget,Ac,xN,Ac,hmod,Cx,Ac,hbit,hsub,hsub1,SG,SI,Ak,Ak,DC m (by omega)]
  by_cases c:(runs (plain N m) C).getD i 0=0
  ·have e1:zD N C i m=((zeros (plain N m):Int) - 1)::zD N C i (m+1):=by unfold zD;rw[yY,List.filter_cons,if_pos (by simpa using c)];rfl
   have e2:oD N C i m=oD N C i (m+1):=by unfold oD;rw[yY,List.filter_cons,if_neg (by simpa using c)]
   rw[decide_eq_true c,Ak,ih,e1,e2];rfl
  ·have e1:zD N C i m=zD N C i (m+1):=by unfold zD;rw[yY,List.filter_cons,if_neg (by simpa using c)]
   have e2:oD N C i m=(zeros (plain N m):Int)::oD N C i (m+1):=by unfold oD;rw[yY,List.filter_cons,if_pos (by simpa using c)];rfl
   rw[decide_eq_false c,AA,ih,e1,e2];rfl
theorem p9 (n fl:Nat) (h1:1≤N) (hN:N≤5) (hi:i < N) (hl:C.length≤24) (hC:I9 N C):BI (n+4) 9 [tb fl (Int.ofNat N) C,I (Int.ofNat i)]=some (.tuple ⟨[I ((Jd N C i).foldl min (N:Int)),I ((Jd N C i).foldl max (0:Int)),I 0]⟩):=by
 have e:BI (n+4) 9 [tb fl (Int.ofNat N) C,I (Int.ofNat i)]=tY (BI (n+3)) 1000000 (Int.ofNat N) (cl fl C) (Int.ofNat i):=by kernel_rfl
 have hc0:WM (Int.ofNat N) C=0:=TW h1 (by omega) hl hC
 obtain⟨b,hb,hall⟩:=O8 N h1 (by omega)
 have h19:=sN n fl N C h1 (by omega) hl hC hc0 b hb.1 hall
 have h19':BI (n+3) 19 [.agg ⟨[I (Int.ofNat N),Sl.v 2 (cl fl C)]⟩]=some (.tuple ⟨[.agg ⟨W (HV b C)⟩,I 0]⟩):=h19
 have hw:=Ha C b hb.1
 have l2:(W (HV b C)).length=14:=by rw[Gs];exact hw.1
 have hp:2 ^ N≤2 ^ 5:=Nat.pow_le_pow_right (by omega) hN
 have hp5:(2:Nat) ^ 5=32:=rfl
 have hrow:∀ m,m < 2 ^ N→Dr (HV b C) N m=runs (plain N m) C:=fun m hm=>by rw[Iz (by omega) m (by omega) C b hb.1 hC,hb.2.1 m hm]
 have h20:BI (n+3) 20 [I 0,I (Int.ofNat i),I (Aj .i64 (Int.sub (Int.ofNat N) 1))]=some (.bool true):=by
  rw[p20,show Aj .i64 (Int.sub (Int.ofNat N) 1)=Int.ofNat (N - 1) from VL N 1 (by omega) h1]
  have:(decide ((0:Int)≤Int.ofNat i) && decide (Int.ofNat i≤Int.ofNat (N - 1)))=true:=by
   rw[Bool.and_eq_true,decide_eq_true_iff,decide_eq_true_iff]
   exact⟨Int.natCast_nonneg i,Int.ofNat_le.2 (by omega)⟩
  rw[this]
 have hsh:QW .i64 (1:Int) N=Int.ofNat (2 ^ N):=by
  have:N=0∨N=1∨N=2∨N=3∨N=4∨N=5:=by omega
  rcases this with rfl | rfl | rfl | rfl | rfl | rfl <;> rfl
 have h9:=l9 (n+1) 1000000 fl hN hi hw hrow (2 ^ N) 1000000 0 (Int.ofNat N) 0 (by omega) (by omega)
 have hzD:zD N C i 0=ZL N C i:=by unfold zD ZL;rw[List.drop_zero]
 have hoD:oD N C i 0=ZM N C i:=by unfold oD ZM;rw[List.drop_zero]
 rw[hzD,hoD] at h9
 rw[PK hN hC hi,RY hN hC hi]
 rw[e];unfold tY
 rw[h19',Ac,FW,Ac,Dj,Dj,EG,RL,Ac,WP l2 (Dy _),Ak,BP,Ac,ZB l2,Ak,sI l2 HY (RV _),Ak,TZ l2 HY,Dy,Ak,show nt (Bd (0:Int) 0)=false from rfl,AA,h20,Ac,BU,Ac,show nt true=false from rfl,AA,Cx,Ac,hsh]
 exact h9
end
end Go.TbRM
set_option maxRecDepth 100000
set_option maxHeartbeats 4000000
namespace Go.TbRM
open Go Go.Sp Go.TbR Go.TM
def yC:List Int→Nat
 | []=>2
 | _::_=>0
def slN (r:List Int):Sl:=sl (yC r) r
def pt (i:Nat):Value:=.pointer (some ⟨i,0,none⟩)
theorem q17 (n:Nat) (r:List Int):BI (n+1) 17 [Sl.v 1 (slN r)]=some (Sl.v 1 (KY 1 (slN r))):=by
 have e:BI (n+1) 17 [Sl.v 1 (slN r)]=UL (BI n) 1000000 (slN r):=by kernel_rfl
 rw[e];unfold UL
 cases r with
 | nil=>rfl
 | cons a r=>rfl
theorem QM (r:List Int):(KY 1 (slN r)).n=r.length∧(KY 1 (slN r)).cs=r.map I∧Dp (Nat.beq (KY 1 (slN r)).fl 1) (Nat.beq (KY 1 (slN r)).fl 2)=true:=by
 cases r with
 | nil=>exact⟨rfl,rfl,rfl⟩
 | cons a r =>
  refine⟨rfl,?_,rfl⟩
  show Aq (((a::r).length - 0)*1) (Am (0*1) ((a::r).map I))=_
  rw[Cg,Bz,Nat.zero_mul,List.drop_zero,Nat.sub_zero,Nat.mul_one,List.take_of_length_le (by simp)]
theorem VZ (r:List Int) (z:Int):(⟨(KY 1 (slN r)).n+1,0,Aq (((KY 1 (slN r)).n+1)*1) (Am 0 (Br (KY 1 (slN r)).cs [I z]))⟩:Sl)=slN (r++[z])∧an (Nat.ble (0+((KY 1 (slN r)).n+1)*1) (len (Br (KY 1 (slN r)).cs ([I z]:List Value)))) (Au Ah (Aq (((KY 1 (slN r)).n+1)*1) (Am 0 (Br (KY 1 (slN r)).cs ([I z]:List Value)))))=true:=by
 obtain⟨h1,h2,_⟩:=QM r
 have e1:Br (r.map I) [I z]=(r++[z]).map I:=by rw[BH];simp
 have e2:Aq ((r.length+1)*1) (Am 0 ((r++[z]).map I))=(r++[z]).map I:=by
  rw[Cg,Bz,List.drop_zero,Nat.mul_one,List.take_of_length_le (by simp)]
 rw[h1,h2,e1,e2]
 constructor
 ·have e3:(r++[z]).length=r.length+1:=by simp
  have e4:yC (r++[z])=0:=by
   cases h:r++[z] with
   | nil=>rw[h] at e3;simp at e3
   | cons a m=>rfl
  unfold slN sl
  rw[e3,e4]
 ·have e5:Nat.ble (0+(r.length+1)*1) (len ((r++[z]).map I))=true:=Nat.ble_eq_true_of_le (by rw[AV];simp)
  rw[e5,Hz];rfl

def stA (o A:List Int) (L:List Nat):List Int:=L.foldl (fun A i=>A.set i (min (A.getD i 0) (o.getD i 0))) A
def QN (o B:List Int) (L:List Nat):List Int:=L.foldl (fun B i=>B.set i (max (B.getD i 0) (o.getD i 0))) B
theorem OE (o:List Int):∀ (L:List Nat) (A:List Int),(stA o A L).length=A.length
 | [],_=>rfl
 | i::L,A=>by show (stA o (A.set i _) L).length=_;rw[OE o L,List.length_set]
theorem OG (o:List Int):∀ (L:List Nat) (A:List Int),(QN o A L).length=A.length
 | [],_=>rfl
 | i::L,A=>by show (QN o (A.set i _) L).length=_;rw[OG o L,List.length_set]
theorem UA (o:List Int):∀ (L:List Nat) (A:List Int) (j:Nat),L.Nodup→(∀ i∈L,i < A.length)→(stA o A L).getD j 0=if j∈L then min (A.getD j 0) (o.getD j 0) else A.getD j 0
 | [],A,j,_,_=>by rw[if_neg (by simp)];rfl
 | i :: L, A, j, hn, hl => by
  have hi:=hl i (by simp)
  show (stA o (A.set i (min (A.getD i 0) (o.getD i 0))) L).getD j 0=_
  rw[UA o L _ j (List.nodup_cons.1 hn).2 (fun k hk=>by rw[List.length_set];exact hl k (by simp[hk])),Jf A i j _ hi]
  by_cases e:j=i
  ·subst e
   rw[if_neg (List.nodup_cons.1 hn).1,if_pos rfl,if_pos (by simp)]
  ·rw[if_neg e]
   by_cases m:j∈L
   ·rw[if_pos m,if_pos (by simp[m])]
   ·rw[if_neg m,if_neg (by simp[m,e])]
theorem UB (o:List Int):∀ (L:List Nat) (A:List Int) (j:Nat),L.Nodup→(∀ i∈L,i < A.length)→(QN o A L).getD j 0=if j∈L then max (A.getD j 0) (o.getD j 0) else A.getD j 0
 | [],A,j,_,_=>by rw[if_neg (by simp)];rfl
 | i :: L, A, j, hn, hl => by
  have hi:=hl i (by simp)
  show (QN o (A.set i (max (A.getD i 0) (o.getD i 0))) L).getD j 0=_
  rw[UB o L _ j (List.nodup_cons.1 hn).2 (fun k hk=>by rw[List.length_set];exact hl k (by simp[hk])),Jf A i j _ hi]
  by_cases e:j=i
  ·subst e
   rw[if_neg (List.nodup_cons.1 hn).1,if_pos rfl,if_pos (by simp)]
  ·rw[if_neg e]
   by_cases m:j∈L
   ·rw[if_pos m,if_pos (by simp[m])]
   ·rw[if_neg m,if_neg (by simp[m,e])]
def slv (i N c:Nat):Value:=.slice (some ⟨i,0,some 1⟩) N c
section
variable {N c:Nat} {C:List (Int×Int)}
def o5 (N c:Nat) (C:List (Int×Int)) (i j:Nat) (A B:List Int):List Value:=[.agg ⟨[I (.ofNat N),Sl.v 2 (cl 0 C)]⟩,.agg ⟨[slv i N c]⟩,.agg ⟨[slv j N c]⟩,.agg ⟨A.map I⟩,.agg ⟨B.map I⟩]
theorem l70 (pu:Af) (M:Nat) (hN:N≤7) {o:List Int} (ho:o.length=N) (hc:2≤c):∀ (d w i:Nat) (A B:List Int),i+d=N→d < w→A.length=N→B.length=N →
 Gn pu M w (sl 0 o) (Int.ofNat N) (Int.ofNat i) (Int.ofNat N) (cl 0 C) N c N c (A.map I) (B.map I)=some (.tuple ⟨.tuple ⟨[]⟩::o5 N c C 4 5 (stA o A ((List.range N).drop i)) (QN o B ((List.range N).drop i))⟩)
 | _,0,_,_,_,_,h,_,_=>by omega
 | 0, w + 1, i, A, B, hd, _, hA, hB => by
  show FM pu M (Gn pu M w) _ _ _ _ _ _ _ _ _ _ _=_
  unfold FM
  rw[Hz,Hz,Ak,Ak,CY (by omega),AA,List.drop_eq_nil_of_le (by simp;omega)];rfl
 | d + 1, w + 1, i, A, B, hd, hw, hA, hB => by
  have hlt:i < N:=by omega
  have yY:(List.range N).drop i=i::(List.range N).drop (i+1):=by
   rw[List.drop_eq_getElem_cons (by simpa using hlt)];simp
  have hoi:i < o.length:=by omega
  have hAi:i < A.length:=by omega
  have hBi:i < B.length:=by omega
  have s1:∀ v:Int,BM ([I v]:List Value) i (A.map I)=(A.set i v).map I:=fun v=>by rw[Gt _ _ _ (by simpa using hAi),List.map_set]
  have s2:∀ v:Int,BM ([I v]:List Value) i (B.map I)=(B.set i v).map I:=fun v=>by rw[Gt _ _ _ (by simpa using hBi),List.map_set]
  have ih:=l70 pu M hN ho hc d w (i+1) (A.set i (min (A.getD i 0) (o.getD i 0))) (B.set i (max (B.getD i 0) (o.getD i 0))) (by omega) (by omega) (by rw[List.length_set];exact hA) (by rw[List.length_set];exact hB)
  rw[yY]
  show FM pu M (Gn pu M w) _ _ _ _ _ _ _ _ _ _ _=some (.tuple ⟨.tuple ⟨[]⟩::o5 N c C 4 5 (stA o (A.set i (min (A.getD i 0) (o.getD i 0))) ((List.range N).drop (i+1))) (QN o (B.set i (max (B.getD i 0) (o.getD i 0))) ((List.range N).drop (i+1)))⟩)
  rw[←ih]
  unfold FM
  simp only[Hz,Ak,C8 hlt,Cx,Ac,I4,GX,blt_eq,hoi,hlt,decide_true,CF,Bool.true_and,BZ,Nat.mul_one,Nat.zero_add,Gm o i hoi,Gm A i hAi,Gm B i hBi,BP,SG,SI,s1,s2,ble_eq,AV,List.length_map,Nat.succ_le_of_lt hAi,Nat.succ_le_of_lt hBi,Bool.and_true,DC i (by omega:i < 1000000)]
theorem p7 (n:Nat) (h7:N≤7) (hl:C.length≤24) (hC:I9 N C) (hc:2≤c) {p:List Int} (hp:p.length=N) {A B:List Int} (hA:A.length=N) (hB:B.length=N) :
 BI (n+2) 10070 ([Sl.v 1 (sl 0 p),pt 1,pt 2,pt 3]++o5 N c C 4 5 A B)=some (.tuple ⟨.tuple ⟨[]⟩::o5 N c C 4 5 (stA (runs p C) A (List.range N)) (QN (runs p C) B (List.range N))⟩):=by
 have e:BI (n+2) 10070 ([Sl.v 1 (sl 0 p),pt 1,pt 2,pt 3]++o5 N c C 4 5 A B)=Iy (BI (n+1)) 1000000 (sl 0 p) (Int.ofNat N) (cl 0 C) N c N c (A.map I) (B.map I):=by kernel_rfl
 obtain⟨D,h8⟩:=p8 n 0 0 N C p h7 hl hC hp
 have h8':BI (n+1) 8 [.agg ⟨[I (Int.ofNat N),Sl.v 2 (cl 0 C)]⟩,Sl.v 1 (sl 0 p),I (-1)]=some (.tuple ⟨[Sl.v 1 (sl 0 (runs p C)),Sl.v 1 ⟨D.length,0,DB D⟩]⟩):=h8
 have hr:(runs p C).length=N:=by rw[Cs];exact hp
 have h:=l70 (C:=C) (BI (n+1)) 1000000 h7 hr hc N 1000000 0 A B (by omega) (by omega) hA hB
 rw[List.drop_zero] at h
 rw[e];unfold Iy
 rw[h8',Ac,FW,Ac,Dj,Dj,EG,Dc,Ac,Dc,Ac,Hz,Ak,Hz,Ak,I4,hr]
 exact h
def Gy (N:Nat) (C:List (Int×Int)) (s:List Int×List Int) (l:List (List Int)):List Int×List Int:=l.foldl (fun s p=>(stA (runs p C) s.1 (List.range N),QN (runs p C) s.2 (List.range N))) s
theorem LY:∀ (l:List (List Int)) (s:List Int×List Int),(Gy N C s l).1.length=s.1.length∧(Gy N C s l).2.length=s.2.length
 | [],_=>⟨rfl,rfl⟩
 | p :: l, s => by
  have:=LY l (stA (runs p C) s.1 (List.range N),QN (runs p C) s.2 (List.range N))
  exact⟨this.1.trans (OE _ _ _),this.2.trans (OG _ _ _)⟩
theorem QO {i : Nat} (hi : i < N) : ∀ (l : List (List Int)) (s : List Int × List Int), s.1.length = N → s.2.length = N → (Gy N C s l).1.getD i 0 = (l.map fun p => (runs p C).getD i 0).foldl min (s.1.getD i 0) ∧ (Gy N C s l).2.getD i 0 = (l.map fun p => (runs p C).getD i 0).foldl max (s.2.getD i 0)
 | [],_,_,_=>⟨rfl,rfl⟩
 | p :: l, s, h1, h2 => by
  have h:=QO hi l (stA (runs p C) s.1 (List.range N),QN (runs p C) s.2 (List.range N)) (by rw[OE];exact h1) (by rw[OG];exact h2)
  have e1:(stA (runs p C) s.1 (List.range N)).getD i 0=min (s.1.getD i 0) ((runs p C).getD i 0):=by
   rw[UA _ _ _ _ List.nodup_range (fun k hk=>by rw[h1];exact List.mem_range.1 hk),if_pos (List.mem_range.2 hi)]
  have e2:(QN (runs p C) s.2 (List.range N)).getD i 0=max (s.2.getD i 0) ((runs p C).getD i 0):=by
   rw[UB _ _ _ _ List.nodup_range (fun k hk=>by rw[h2];exact List.mem_range.1 hk),if_pos (List.mem_range.2 hi)]
  dsimp only at h
  rw[e1,e2] at h
  exact h
def objs (N c:Nat) (C:List (Int×Int)) (s:List Int×List Int):List Value:=[.agg ⟨[I (.ofNat N)]⟩,.agg ⟨[.func (.func 7) ⟨[]⟩ ⟨[pt 4,pt 5,pt 6]⟩]⟩,.agg ⟨[.func (.func 15) ⟨[]⟩ ⟨[pt 1,pt 2,pt 3]⟩]⟩]++o5 N c C 7 8 s.1 s.2
def V3 (N c:Nat) (C:List (Int×Int)) (r:List Int) (s:List Int×List Int):List Value:=[Sl.v 1 (slN r),pt 1,pt 2,pt 3]++objs N c C s
def UC (N c:Nat) (C:List (Int×Int)) (s:List Int×List Int):Value:=.tuple ⟨.tuple ⟨[]⟩::objs N c C s⟩
theorem tF (n:Nat) (r:List Int) (s:List Int×List Int):BI (n+1) 10150 (V3 N c C r s)=G5 (BI n) 1000000 (slN r) (Int.ofNat N) (Int.ofNat N) (cl 0 C) N c N c (s.1.map I) (s.2.map I):=by kernel_rfl
theorem WU {q:List Value} (hc:2≤c):Dp (Nat.ble 2 c) (MQ q)=true:=by rw[show Nat.ble 2 c=true from Nat.ble_eq_true_of_le hc];rfl
theorem Pf (n d:Nat) (hN:N≤7) (hc:2≤c) (r:List Int) (hr:r.length≤7) (hS:∀ (z:Int) (s:List Int×List Int),s.1.length=N→s.2.length=N→BI (n+3) 10150 (V3 N c C (r++[z]) s)=some (UC N c C (Gy N C s (Dn N d (r++[z]))))):∀ (e v i:Nat) (s:List Int×List Int),i+e=N→e < v→s.1.length=N→s.2.length=N →
 Fh (BI (n+3)) 1000000 v (slN r) (Int.ofNat i) (Int.ofNat N) (Int.ofNat N) (cl 0 C) N c N c (s.1.map I) (s.2.map I)=some (UC N c C (Gy N C s (((List.range N).drop i).flatMap fun j=>if Int.ofNat j∈r then [] else Dn N d (r++[Int.ofNat j]))))
 | _,0,_,_,_,h,_,_=>by omega
 | 0, v + 1, i, s, hi, _, _, _ => by
  show FL (BI (n+3)) 1000000 (Fh (BI (n+3)) 1000000 v) _ _ _ _ _ _ _ _ _ _ _=_
  unfold FL
  rw[Hz,Ak,Hz,Ak,CY (by omega),AA,List.drop_eq_nil_of_le (by simp;omega)];rfl
 | e + 1, v + 1, i, s, hi, hv, h1, h2 => by
  have hlt:i < N:=by omega
  have yY:(List.range N).drop i=i::(List.range N).drop (i+1):=by
   rw[List.drop_eq_getElem_cons (by simpa using hlt)];simp
  have h16:BI (n+3) 16 [Sl.v 1 (slN r),I (Int.ofNat i)]=some (.bool (Oz (Int.ofNat i∈r))):=p16 (n+1) (yC r) r (Int.ofNat i) (by omega)
  have ih:=fun s h1 h2=>Pf n d hN hc r hr hS e v (i+1) s (by omega) (by omega) h1 h2
  rw[yY,List.flatMap_cons]
  show FL (BI (n+3)) 1000000 (Fh (BI (n+3)) 1000000 v) _ _ _ _ _ _ _ _ _ _ _=_
  unfold FL
  rw[Hz,Ak,Hz,Ak,C8 hlt,Ak,h16,Ac,BU,Ac]
  by_cases hm:Int.ofNat i∈r
  ·rw[KJ hm,show nt true=false from rfl,AA,if_pos hm,List.nil_append]
   unfold FK
   rw[Hz,Ak,Hz,Ak,DC i (by omega)]
   exact ih s h1 h2
  ·rw[KS hm,show nt false=true from rfl,Ak,if_neg hm]
   obtain⟨a1,a2⟩:=VZ r (Int.ofNat i)
   obtain⟨c1,c2,c3⟩:=QM r
   have hroom:EQ ((KY 1 (slN r)).n+1) 8=true:=by rw[c1];exact Uj (by omega)
   have hcall:=hS (Int.ofNat i) s h1 h2
   obtain⟨f1,f2⟩:=LY (N:=N) (C:=C) (Dn N d (r++[Int.ofNat i])) s
   rw[q17,Ac,Dc,Ac,c3,hroom,show an true true=true from rfl,Ak,a2,Ak,a1,WU hc,Ak,WU hc,Ak,Ak,Ak]
   refine Eq.trans (congrArg (fun q=>oo q none _) hcall) ?_
   have hfold:Gy N C s (Dn N d (r++[Int.ofNat i])++((List.range N).drop (i+1)).flatMap fun j=>if Int.ofNat j∈r then [] else Dn N d (r++[Int.ofNat j]))=Gy N C (Gy N C s (Dn N d (r++[Int.ofNat i]))) (((List.range N).drop (i+1)).flatMap fun j=>if Int.ofNat j∈r then [] else Dn N d (r++[Int.ofNat j])):=by unfold Gy;rw[List.foldl_append]
   rw[hfold,←ih (Gy N C s (Dn N d (r++[Int.ofNat i]))) (f1.trans h1) (f2.trans h2)]
   generalize Gy N C s (Dn N d (r++[Int.ofNat i]))=s'
   show bb (Au Ah (s'.1.map I)) (bb (Au Ah (s'.2.map I)) (bb (Au Ah (s'.1.map I)) (bb (Au Ah (s'.2.map I)) (FK (BI (n+3)) 1000000 (Fh (BI (n+3)) 1000000 v) (slN r) (Int.ofNat i) (Int.ofNat N) (Int.ofNat N) (cl 0 C) N c N c (s'.1.map I) (s'.2.map I)) none) none) none) none=_
   unfold FK
   simp only[Hz,Ak,DC i (show i < 1000000 by omega)]
theorem QR (h1:1≤N) (h7:N≤7) (hl:C.length≤24) (hC:I9 N C) (hc:2≤c):∀ (d n:Nat) (r:List Int) (s:List Int×List Int),r.length+d=N→s.1.length=N→s.2.length=N→BI (n+d+3) 10150 (V3 N c C r s)=some (UC N c C (Gy N C s (Dn N d r)))
 | 0, n, r, s, hr, e1, e2 => by
  rw[tF]
  unfold G5
  have hfl:slN r=sl 0 r:=by
   cases r with
   | nil=>simp at hr;omega
   | cons a r=>rfl
  have h12:=p7 n h7 hl hC hc (p:=r) (by omega) e1 e2
  rw[hfl,I4,show r.length=N from by omega,Hz,Ak,Hz,Ak,UX,Ak,WU hc,Ak,WU hc,Ak,Ak,Ak]
  refine Eq.trans (congrArg (fun q=>oo q none _) h12) ?_
  show bb (Au Ah ((stA (runs r C) s.1 (List.range N)).map I)) (bb (Au Ah ((QN (runs r C) s.2 (List.range N)).map I)) (bb (Au Ah ((stA (runs r C) s.1 (List.range N)).map I)) (bb (Au Ah ((QN (runs r C) s.2 (List.range N)).map I)) (some (UC N c C (stA (runs r C) s.1 (List.range N),QN (runs r C) s.2 (List.range N)))) none) none) none) none=_
  simp only[Hz,Ak]
  rfl
 | d + 1, n, r, s, hr, e1, e2 => by
  have hS:∀ (z:Int) (s:List Int×List Int),s.1.length=N→s.2.length=N→BI ((n+d)+3) 10150 (V3 N c C (r++[z]) s)=some (UC N c C (Gy N C s (Dn N d (r++[z])))):=fun z s e1 e2=>QR h1 h7 hl hC hc d n (r++[z]) s (by simp;omega) e1 e2
  have hlp:=Pf (n+d) d h7 hc r (by omega) hS N 1000000 0 s (by omega) (by omega) e1 e2
  rw[List.drop_zero] at hlp
  rw[show n+(d+1)+3=(n+d+3)+1 from by omega,tF]
  unfold G5
  rw[Hz,Ak,Hz,Ak,show (slN r).n=r.length from rfl,SQ (show Int.ofNat r.length≠Int.ofNat N from fun h=>by have:=Int.ofNat.inj h;omega),AA]
  exact hlp
theorem yD (n:Nat) (h1:1≤N) (h7:N≤7) (hl:C.length≤24) (hC:I9 N C) (hc:2≤c) (s:List Int×List Int) (e1:s.1.length=N) (e2:s.2.length=N) :
 BI (n+N+4) 10060 ([I (Int.ofNat N),.func (.func 7) ⟨[]⟩ ⟨[pt 1,pt 2,pt 3]⟩]++o5 N c C 4 5 s.1 s.2)=some (.tuple ⟨.tuple ⟨[]⟩::o5 N c C 4 5 (Gy N C s (Dn N N [])).1 (Gy N C s (Dn N N [])).2⟩):=by
 have e:BI (n+N+3+1) 10060 ([I (Int.ofNat N),.func (.func 7) ⟨[]⟩ ⟨[pt 1,pt 2,pt 3]⟩]++o5 N c C 4 5 s.1 s.2)=Ir (BI (n+N+3)) 1000000 (Int.ofNat N) (Int.ofNat N) (cl 0 C) N c N c (s.1.map I) (s.2.map I):=by kernel_rfl
 have h:=QR h1 h7 hl hC hc N n [] s (by simp) e1 e2
 rw[show n+N+4=n+N+3+1 from rfl,e]
 unfold Ir
 rw[Hz,Ak,Hz,Ak,WU hc,Ak,WU hc,Ak,Ak,Ak]
 refine Eq.trans (congrArg (fun q=>oo q none _) h) ?_
 generalize Gy N C s (Dn N N [])=s'
 show bb (Au Ah (s'.1.map I)) (bb (Au Ah (s'.2.map I)) (bb (Au Ah (s'.1.map I)) (bb (Au Ah (s'.2.map I)) (some (Value.tuple ⟨.tuple ⟨[]⟩::o5 N c C 4 5 s'.1 s'.2⟩)) none) none) none) none=_
 simp only[Hz,Ak]
end
end Go.TbRM
set_option maxRecDepth 100000
set_option maxHeartbeats 4000000
namespace Go.TbRM
open Go Go.Sp Go.TbR Go.TM
theorem tH (pu:Af) (s:Sl):Ov pu 1000000 1000000 (Int.ofNat 1) (0:Int) (Int.ofNat 1) s 1 (2*1+bb true 1 0) 1 (2*1+bb true 1 0) (AF ([I 0]:List Value) 1) (AF ([I 0]:List Value) 1)=K3 pu 1000000 (Int.ofNat 1) s 1 (2*1+bb true 1 0) 1 (2*1+bb true 1 0) ((List.replicate 1 ((1:Nat):Int)).map I) ((List.replicate 1 (0:Int)).map I):=by kernel_rfl
theorem tJ (pu:Af) (s:Sl):Ov pu 1000000 1000000 (Int.ofNat 2) (0:Int) (Int.ofNat 2) s 2 (2*2+bb true 1 0) 2 (2*2+bb true 1 0) (AF ([I 0]:List Value) 2) (AF ([I 0]:List Value) 2)=K3 pu 1000000 (Int.ofNat 2) s 2 (2*2+bb true 1 0) 2 (2*2+bb true 1 0) ((List.replicate 2 ((2:Nat):Int)).map I) ((List.replicate 2 (0:Int)).map I):=by kernel_rfl
theorem tK (pu:Af) (s:Sl):Ov pu 1000000 1000000 (Int.ofNat 3) (0:Int) (Int.ofNat 3) s 3 (2*3+bb true 1 0) 3 (2*3+bb true 1 0) (AF ([I 0]:List Value) 3) (AF ([I 0]:List Value) 3)=K3 pu 1000000 (Int.ofNat 3) s 3 (2*3+bb true 1 0) 3 (2*3+bb true 1 0) ((List.replicate 3 ((3:Nat):Int)).map I) ((List.replicate 3 (0:Int)).map I):=by kernel_rfl
theorem tL (pu:Af) (s:Sl):Ov pu 1000000 1000000 (Int.ofNat 4) (0:Int) (Int.ofNat 4) s 4 (2*4+bb true 1 0) 4 (2*4+bb true 1 0) (AF ([I 0]:List Value) 4) (AF ([I 0]:List Value) 4)=K3 pu 1000000 (Int.ofNat 4) s 4 (2*4+bb true 1 0) 4 (2*4+bb true 1 0) ((List.replicate 4 ((4:Nat):Int)).map I) ((List.replicate 4 (0:Int)).map I):=by kernel_rfl
theorem tN (pu:Af) (s:Sl):Ov pu 1000000 1000000 (Int.ofNat 5) (0:Int) (Int.ofNat 5) s 5 (2*5+bb true 1 0) 5 (2*5+bb true 1 0) (AF ([I 0]:List Value) 5) (AF ([I 0]:List Value) 5)=K3 pu 1000000 (Int.ofNat 5) s 5 (2*5+bb true 1 0) 5 (2*5+bb true 1 0) ((List.replicate 5 ((5:Nat):Int)).map I) ((List.replicate 5 (0:Int)).map I):=by kernel_rfl
theorem fill (pu:Af) (s:Sl) {N:Nat} (h1:1≤N) (h5:N≤5):Ov pu 1000000 1000000 (Int.ofNat N) (0:Int) (Int.ofNat N) s N (2*N+bb true 1 0) N (2*N+bb true 1 0) (AF ([I 0]:List Value) N) (AF ([I 0]:List Value) N)=K3 pu 1000000 (Int.ofNat N) s N (2*N+bb true 1 0) N (2*N+bb true 1 0) ((List.replicate N (N:Int)).map I) ((List.replicate N (0:Int)).map I):=by
 have:N=1∨N=2∨N=3∨N=4∨N=5:=by omega
 rcases this with rfl | rfl | rfl | rfl | rfl
 ·exact tH pu s
 ·exact tJ pu s
 ·exact tK pu s
 ·exact tL pu s
 ·exact tN pu s
theorem yE {N:Nat} (h5:N≤5):Au Ah (AF ([I 0]:List Value) N)=true:=by
 have:N=0∨N=1∨N=2∨N=3∨N=4∨N=5:=by omega
 rcases this with rfl | rfl | rfl | rfl | rfl | rfl <;> rfl
section
variable {N c:Nat} {C:List (Int×Int)}
def KT (N:Nat) (C:List (Int×Int)) (i:Nat):Int:=(Jd N C i).foldl min (N:Int)
def KU (N:Nat) (C:List (Int×Int)) (i:Nat):Int:=(Jd N C i).foldl max (0:Int)
theorem l33 (n M:Nat) (h1:1≤N) (h5:N≤5) (hl:C.length≤24) (hC:I9 N C) {A B:List Int} (hA:A.length=N) (hB:B.length=N) (kA:∀ i,i < N→A.getD i 0=KT N C i) (kB:∀ i,i < N→B.getD i 0=KU N C i):∀ (d w i:Nat) (b:Bool),i+d=N→d < w →
 OO (BI (n+4)) M w b (Int.ofNat N) (Int.ofNat i) (Int.ofNat N) (cl 0 C) N c N c (A.map I) (B.map I)=RO (BI (n+4)) M (b && Oz (∀ j,i≤j→j < N→KT N C j=Int.ofNat j∧KU N C j=Int.ofNat j)) (Int.ofNat N) (cl 0 C)
 | _,0,_,_,_,h=>by omega
 | 0, w + 1, i, b, hd, _ => by
  show Pk (BI (n+4)) M (OO (BI (n+4)) M w) _ _ _ _ _ _ _ _ _ _ _=_
  unfold Pk
  rw[Hz,Ak,Hz,Ak,CY (by omega),AA,KJ (fun j h2 h3=>by omega),Bool.and_true]
 | d + 1, w + 1, i, b, hd, hw => by
  have hlt:i < N:=by omega
  have hAi:i < A.length:=by omega
  have hBi:i < B.length:=by omega
  have h9:BI (n+4) 9 [.agg ⟨[I (Int.ofNat N),Sl.v 2 (cl 0 C)]⟩,I (Int.ofNat i)]=some (.tuple ⟨[I (KT N C i),I (KU N C i),I 0]⟩):=p9 n 0 h1 h5 hlt hl hC
  have gA:AL (A.map I) (0+i*1)=some (I (KT N C i)):=by rw[BZ,Nat.zero_add,Nat.mul_one,Gm A i hAi,kA i hlt]
  have gB:AL (B.map I) (0+i*1)=some (I (KU N C i)):=by rw[BZ,Nat.zero_add,Nat.mul_one,Gm B i hBi,kB i hlt]
  have hb:an (Nat.blt i N) true=true:=by rw[CF,blt_eq,decide_eq_true hlt];rfl
  have ih:=fun b=>l33 n M h1 h5 hl hC hA hB kA kB d w (i+1) b (by omega) (by omega)
  have hq:∀ P:Prop,(P↔(KT N C i=Int.ofNat i∧KU N C i=Int.ofNat i))→Oz (∀ j,i≤j→j < N→KT N C j=Int.ofNat j∧KU N C j=Int.ofNat j)=(Oz P && Oz (∀ j,i+1≤j→j < N→KT N C j=Int.ofNat j∧KU N C j=Int.ofNat j)):=fun P hP=>by
   by_cases g:P
   ·rw[KJ g,Bool.true_and]
    exact Gq ⟨fun h j h2 h3=>h j (by omega) h3,fun h j h2 h3=>by
     by_cases e:j=i
     ·subst e;exact hP.1 g
     ·exact h j (by omega) h3⟩
   ·rw[KS g,Bool.false_and,KS fun h=>g (hP.2 (h i (Nat.le_refl _) hlt))]
  show Pk (BI (n+4)) M (OO (BI (n+4)) M w) _ _ _ _ _ _ _ _ _ _ _=_
  unfold Pk
  rw[Hz,Ak,Hz,Ak,C8 hlt,Ak,h9,Ac,FW,Ac,Dj,Dj,Dj,EG,BP,Ac,BP,Ac,BP,Ac,show nt (Bd (0:Int) 0)=false from rfl,AA,Cx,Ac,hb,Ak,gA,Ac,BP,Ac,SK,AA,Ak,gB,Ac,BP,Ac,SK]
  unfold RP
  rw[AA,Hz,Ak,Hz,Ak,DC i (by omega),hq _ Iff.rfl]
  cases b with
  | false=>rw[AA,ih false,Bool.false_and,Bool.false_and]
  | true =>
   rw[Ak,Bool.true_and]
   by_cases g1:KT N C i=Int.ofNat i
   ·rw[g1,UX,Ak]
    by_cases g2:KU N C i=Int.ofNat i
    ·rw[g2,UX,ih true,Bool.true_and,KJ (show Int.ofNat i=Int.ofNat i∧Int.ofNat i=Int.ofNat i from ⟨rfl,rfl⟩),Bool.true_and]
    ·rw[SQ g2,ih false,Bool.false_and,KS (fun h=>g2 h.2),Bool.false_and]
   ·rw[SQ g1,AA,ih false,Bool.false_and,KS (fun h=>g1 h.1),Bool.false_and]
end
theorem e11 (n:Nat):BI (n+4) 11 []=some (.bool true):=by kernel_rfl
theorem UD (n L:Nat) (P:List (Nat×Nat)) (b:Bool) (hL:L < 256) (hP:byte P) :
 BI (n+14) 3 [.agg ⟨[.int .u8 (Int.ofNat L),Sl.v 2 (ps P),.bool b]⟩]=some (.bool true):=by
 have e:BI (n+14) 3 [.agg ⟨[.int .u8 (Int.ofNat L),Sl.v 2 (ps P),.bool b]⟩]=tT (BI (n+13)) 1000000 (Int.ofNat L) (ps P) b:=by kernel_rfl
 obtain⟨C,hC,hl,h5⟩:=sZ (n+12) L 10 P hL hP b (Nat.le_refl _)
 have hl24:C.length≤24:=by cases b <;> simp at hl <;> omega
 have hmod:L % 5 < 5:=Nat.mod_lt _ (by omega)
 generalize hN:1+L % 5=N at *
 have h1:1≤N:=by omega
 have hN5:N≤5:=by omega
 have h5':BI (n+13) 5 [.agg ⟨[.int .u8 (Int.ofNat L),Sl.v 2 (ps P),.bool b]⟩,I 10]=some (.agg ⟨[I (Int.ofNat N),Sl.v 2 (cl 0 C)]⟩):=h5
 have hkk:an (Nat.ble N N) (an (Nat.ble (N*8) 1099511627776) (an (Nat.ble N 1099511627776) true))=true:=by
  rw[CF,CF,CF,ble_eq,ble_eq,ble_eq];simp;omega
 have hc:2≤2*N+bb true 1 0:=by show 2≤2*N+1;omega
 have h6:=yD (n+9 - N) h1 (by omega) hl24 hC hc (List.replicate N (N:Int),List.replicate N (0:Int)) (by simp) (by simp)
 rw[show n+9 - N+N+4=n+13 from by omega] at h6
 obtain⟨f1,f2⟩:=LY (N:=N) (C:=C) (Dn N N []) (List.replicate N (N:Int),List.replicate N (0:Int))
 have g:∀ i,i < N→(Gy N C (List.replicate N (N:Int),List.replicate N (0:Int)) (Dn N N [])).1.getD i 0=KT N C i∧(Gy N C (List.replicate N (N:Int),List.replicate N (0:Int)) (Dn N N [])).2.getD i 0=KU N C i:=fun i hi=>by
  have h:=QO (C:=C) hi (Dn N N []) (List.replicate N (N:Int),List.replicate N (0:Int)) (by simp) (by simp)
  have e1:(List.replicate N (N:Int)).getD i 0=(N:Int):=by rw[List.getD_eq_getElem?_getD,List.getElem?_replicate,if_pos hi];rfl
  have e2:(List.replicate N (0:Int)).getD i 0=0:=by rw[List.getD_eq_getElem?_getD,List.getElem?_replicate,if_pos hi];rfl
  dsimp only at h
  rw[e1,e2] at h
  exact h
 generalize Gy N C (List.replicate N (N:Int),List.replicate N (0:Int)) (Dn N N [])=s at h6 f1 f2 g
 have hs1:s.1.length=N:=by rw[f1];simp
 have hs2:s.2.length=N:=by rw[f2];simp
 have h33:=l33 (c:=2*N+bb true 1 0) (n+9) 1000000 h1 hN5 hl24 hC hs1 hs2 (fun i hi=>(g i hi).1) (fun i hi=>(g i hi).2) N 1000000 0 true (by omega) (by omega)
 have hsort:Oz (∀ j,0≤j→j < N→KT N C j=Int.ofNat j∧KU N C j=Int.ofNat j)=Oz (Jg N C):=Gq ((show (∀ j,0≤j→j < N→KT N C j=Int.ofNat j∧KU N C j=Int.ofNat j)↔(∀ i,i < N→KT N C i=Int.ofNat i∧KU N C i=Int.ofNat i) from ⟨fun h i hi=>h i (Nat.zero_le _) hi,fun h j _ hj=>h j hj⟩).trans (PL hN5 hC))
 rw[Bool.true_and,hsort] at h33
 have h10:BI (n+13) 10 [.agg ⟨[I (Int.ofNat N),Sl.v 2 (cl 0 C)]⟩]=some (.tuple ⟨[.bool (Oz (Jg N C)),I 0]⟩):=ZN (n+9) 0 N C h1 (by omega) hl24 hC (TW h1 (by omega) hl24 hC)
 generalize Oz (Jg N C)=q at h33 h10
 rw[e];unfold tT
 rw[h5',Ac,RL,Ac,Dj,Dj,EG,BP,Ac,show Bj 2 (Sl.v 2 (cl 0 C))=some (cl 0 C) from rfl,Ac,Cx,Ac,hkk,Ak,Ak,yE hN5,Ak]
 refine Eq.trans (fill (BI (n+13)) (cl 0 C) h1 hN5) ?_
 unfold K3
 rw[WU hc,Ak,WU hc,Ak,Hz,Ak,Hz,Ak]
 refine Eq.trans (congrArg (fun q=>oo q none _) h6) ?_
 show bb (Au Ah (s.1.map I)) (bb (Au Ah (s.2.map I)) (bb (Au Ah (s.1.map I)) (bb (Au Ah (s.2.map I)) (OO (BI (n+13)) 1000000 1000000 true (Int.ofNat N) (Int.ofNat 0) (Int.ofNat N) (cl 0 C) N (2*N+bb true 1 0) N (2*N+bb true 1 0) (s.1.map I) (s.2.map I)) none) none) none) none=_
 simp only[Hz,Ak]
 refine Eq.trans h33 ?_
 unfold RO Pj
 rw[h10,Ac,FW,Ac,Dj,Dj,EG,BU,Ac,BP,Ac,show Bd (0:Int) 0=true from rfl,Ak,show bq true (bq q q)=true from by cases q <;> rfl,Ak,e11 (n+9),Ac,BU,Ac]
end Go.TbRM
set_option maxRecDepth 100000
namespace Go.TbRM
open Go Go.ChangeShapes Go.WideShapes Go.ChangeAt Go.RowKit Go.Sp Go.TbR
theorem yF {n:Int} (h:(Lit.int .u8 n).wf=true):∃ m:Nat,n=Int.ofNat m∧m < 256:=by
 simp only[Lit.wf,Bool.and_eq_true,decide_eq_true_eq] at h
 have h1:(0:Int)≤n:=h.1
 have h2:n≤(255:Int):=h.2
 exact⟨n.toNat,(Int.toNat_of_nonneg h1).symm,by omega⟩
section
variable {P:Program} {t:TypeId} {xs:List Value}
theorem ZO {e e3:TypeId} (ht:P.underlying t=some (.slice e)) (he:P.underlying e=some (.array 2 e3)) (h3:P.underlying e3=some (.int .u8)) (hc:P.cellsOf e=2) (h:M5 P t xs) :
 ∃ C:List (Nat×Nat),xs=[Sl.v 2 (ps C)]∧byte C:=by
 obtain⟨ls,hl,hs,rfl⟩:=h.slice_inv ht
 have:∃ C:List (Nat×Nat),C.length=ls.length∧ls.flatten=pl C∧byte C:=by
  clear hl h
  induction ls with
  | nil=>exact⟨[],rfl,rfl,by intro p hp;cases hp⟩
  | cons m ls ih =>
   obtain⟨C,h1,h2,h4⟩:=ih fun l hl=>hs l (by simp[hl])
   obtain⟨ms,k1,rfl,k3⟩:=(hs m (by simp)).array_inv he
   match ms,k1 with
   | [x, y], _ =>
    obtain⟨a,rfl,wa⟩:=(k3 x (by simp)).int_inv h3
    obtain⟨b,rfl,wb⟩:=(k3 y (by simp)).int_inv h3
    obtain⟨a,rfl,la⟩:=yF wa
    obtain⟨b,rfl,lb⟩:=yF wb
    refine⟨(a,b)::C,by simp[h1],by simp[h2,pl],?_⟩
    intro p hp
    rcases List.mem_cons.1 hp with rfl | hp
    ·exact⟨la,lb⟩
    ·exact h4 p hp
 obtain⟨C,h1,h2,h4⟩:=this
 refine⟨C,?_,h4⟩
 rw[hc,h2,←h1];rfl
end

end Go.TbRM
