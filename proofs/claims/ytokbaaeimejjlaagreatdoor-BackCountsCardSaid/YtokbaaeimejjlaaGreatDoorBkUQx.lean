/- Made from wip. -/
import Derived.Test.YtokbaaeimejjlaaGreatDoorBkU7x

set_option maxRecDepth 100000
set_option maxHeartbeats 4000000
namespace Go.BkW
def sm (f : Nat → Nat) : Nat → Nat
 | 0=>0
 | n+1=>sm f n+f n
theorem CY {f g : Nat → Nat} : ∀ {n : Nat}, (∀ i, i < n → f i = g i) → sm f n = sm g n
 | 0,_=>rfl
 | n + 1, h => by
  show sm f n+f n=sm g n+g n
  rw[CY fun i hi=>h i (by omega),h n (by omega)]
theorem SE (f g : Nat → Nat) : ∀ n, sm (fun i => f i + g i) n = sm f n + sm g n
 | 0=>rfl
 | n + 1 => by
  show sm (fun i=>f i+g i) n+(f n+g n)=(sm f n+f n)+(sm g n+g n)
  rw[SE f g n];omega
theorem JP : ∀ n, sm (fun _ => 0) n = 0
 | 0=>rfl
 | n+1=>by show sm (fun _=>0) n+0=0;rw[JP n]
theorem jL (c : Nat) (f : Nat → Nat) : ∀ n, sm (fun i => c * f i) n = c * sm f n
 | 0=>(Nat.mul_zero c).symm
 | n+1=>by show sm (fun i=>c*f i) n+c*f n=c*(sm f n+f n);rw[jL c f n,Nat.mul_add]
theorem Yk (f : Nat → Nat → Nat) (m : Nat) : ∀ n, sm (fun i => sm (fun j => f i j) m) n = sm (fun j => sm (fun i => f i j) n) m
 | 0=>(JP m).symm
 | n + 1 => by
  show sm (fun i=>sm (fun j=>f i j) m) n+sm (fun j=>f n j) m=sm (fun j=>sm (fun i=>f i j) n+f n j) m
  rw[Yk f m n,SE]
theorem Ir (f : Nat → Nat) : ∀ n, sm f (n + 1) = f 0 + sm (fun i => f (i + 1)) n
 | 0=>by show 0+f 0=f 0+0;omega
 | n + 1 => by
  show sm f (n+1)+f (n+1)=f 0+(sm (fun i=>f (i+1)) n+f (n+1))
  rw[Ir f n];omega
theorem UF {f : Nat → Nat} {b : Nat} : ∀ {n : Nat}, (∀ i, i < n → f i ≤ b) → sm f n ≤ n * b
 | 0,_=>by simp[sm]
 | n + 1, h => by
  have:=UF (f:=f) (b:=b) (n:=n) fun i hi=>h i (by omega)
  have:=h n (by omega)
  show sm f n+f n≤(n+1)*b
  rw[Nat.succ_mul];omega
def upd (a:Nat→Nat) (i r:Nat):Nat→Nat:=fun j=>if j=i then a j - r else a j
theorem kQ (a:Nat→Nat) (i j r s:Nat) (h:i≠j):upd (upd a i r) j s=upd (upd a j s) i r:=by
 funext k
 unfold upd
 by_cases h1:k=i
 ·subst h1
  simp[h]
 ·by_cases h2 : k = j
  ·subst h2;simp[h1]
  ·simp[h1,h2]
theorem upd_same (a:Nat→Nat) (i r s:Nat):upd (upd a i r) i s=upd a i (r+s):=by
 funext k
 unfold upd
 by_cases h1:k=i
 ·subst h1;simp;omega
 ·simp[h1]
theorem upd_ne (a:Nat→Nat) {i j:Nat} (r:Nat) (h:j≠i):upd a i r j=a j:=by unfold upd;rw[if_neg h]
theorem Pd (a:Nat→Nat) (i r:Nat):upd a i r i=a i - r:=by unfold upd;rw[if_pos rfl]
def W (m : Nat) : List Nat → (Nat → Nat) → Nat
 | [],_=>1
 | r::rs,a=>sm (fun i=>if r≤a i then W m rs (upd a i r) else 0) m
theorem ZG (m : Nat) : ∀ (rs : List Nat) (a : Nat → Nat), W m rs a ≤ m ^ rs.length
 | [],_=>Nat.le_refl 1
 | r :: rs, a => by
  show sm _ m≤m ^ (rs.length+1)
  rw[Nat.pow_succ,Nat.mul_comm]
  refine UF fun i _=>?_
  split
  ·exact ZG m rs _
  ·exact Nat.zero_le _
theorem Abx (m r s:Nat) (rs:List Nat) (a:Nat→Nat):W m (r::s::rs) a=W m (s::r::rs) a:=by
 have e:∀ (r s:Nat),W m (r::s::rs) a=sm (fun i=>sm (fun j=>if r≤a i∧s≤upd a i r j then W m rs (upd (upd a i r) j s) else 0) m) m:=fun r s=>by
  show sm (fun i=>if r≤a i then sm (fun j=>if s≤upd a i r j then W m rs (upd (upd a i r) j s) else 0) m else 0) m=_
  refine CY fun i _=>?_
  by_cases h:r≤a i
  ·rw [if_pos h]
   refine CY fun j _=>?_
   by_cases h2:s≤upd a i r j
   ·rw[if_pos h2,if_pos ⟨h,h2⟩]
   ·rw[if_neg h2,if_neg fun x=>h2 x.2]
  ·rw [if_neg h]
   exact(JP m).symm.trans (CY fun j _=>(if_neg fun x:r≤a i∧s≤upd a i r j=>h x.1).symm)
 rw[e r s,e s r,Yk]
 refine CY fun i _=>CY fun j _=>?_
 by_cases hij:j=i
 ·subst hij
  rw[Pd,Pd,upd_same,upd_same,Nat.add_comm r s]
  by_cases h:r+s≤a j
  ·rw[if_pos ⟨by omega,by omega⟩,if_pos ⟨by omega,by omega⟩]
  ·rw[if_neg (by omega),if_neg (by omega)]
 ·rw [upd_ne a r (Ne.symm hij), upd_ne a s hij, kQ a j i r s hij]
  by_cases h:r≤a j∧s≤a i
  ·rw[if_pos h,if_pos ⟨h.2,h.1⟩]
  ·rw[if_neg h,if_neg fun x=>h ⟨x.2,x.1⟩]
theorem WT {m:Nat} {l l':List Nat} (h:l.Perm l'):∀ a,W m l a=W m l' a:=by
 induction h with
 | nil=>exact fun _=>rfl
 | cons x _ ih=>exact fun a=>CY fun i _=>by rw[ih]
 | swap x y l=>exact fun a=>Abx m y x l a
 | trans _ _ ih1 ih2=>exact fun a=>(ih1 a).trans (ih2 a)
def D (m : Nat) : List Nat → Nat → List Nat → (Nat → Nat) → Nat
 | [],v,acc,a=>if v=0 then W m acc a else 0
 | r::rs,v,acc,a=>(if r≤v then D m rs (v - r) acc a else 0)+D m rs v (r::acc) a
theorem WU {m : Nat} : ∀ (rs : List Nat) (v : Nat) {acc acc' : List Nat} (a : Nat → Nat), acc.Perm acc' → D m rs v acc a = D m rs v acc' a
 | [],v,acc,acc',a,h=>by show (if v=0 then W m acc a else 0)=if v=0 then W m acc' a else 0;rw[WT h]
 | r :: rs, v, acc, acc', a, h => by
  show (if r≤v then D m rs (v - r) acc a else 0)+D m rs v (r::acc) a=(if r≤v then D m rs (v - r) acc' a else 0)+D m rs v (r::acc') a
  rw[WU rs (v - r) a h,WU rs v a (h.cons r)]
theorem kR {m : Nat} (r : Nat) : ∀ (rs : List Nat) (v : Nat) (acc : List Nat) (a : Nat → Nat), D m rs v (r :: acc) a = sm (fun i => if r ≤ a i then D m rs v acc (upd a i r) else 0) m
 | [], v, acc, a => by
  show (if v=0 then W m (r::acc) a else 0)=sm (fun i=>if r≤a i then (if v=0 then W m acc (upd a i r) else 0) else 0) m
  by_cases h:v=0
  ·simp only[if_pos h];rfl
  ·simp only [if_neg h]
   exact(JP m).symm.trans (CY fun i _=>by split <;> rfl)
 | s :: rs, v, acc, a => by
  show (if s≤v then D m rs (v - s) (r::acc) a else 0)+D m rs v (s::r::acc) a=sm (fun i=>if r≤a i then ((if s≤v then D m rs (v - s) acc (upd a i r) else 0)+D m rs v (s::acc) (upd a i r)) else 0) m
  rw[WU rs v a (List.Perm.swap r s acc),kR r rs v (s::acc) a]
  by_cases h:s≤v
  ·simp only [if_pos h]
   rw[kR r rs (v - s) acc a,←SE]
   exact CY fun i _=>by split <;> simp
  ·simp only [if_neg h]
   rw[Nat.zero_add]
   exact CY fun i _=>by split <;> simp
def tl (a:Nat→Nat):Nat→Nat:=fun i=>a (i+1)
def Dy (l:List Nat):Nat:=l.foldr (· + ·) 0
theorem Aby (a:Nat→Nat) (i r:Nat):tl (upd a (i+1) r)=upd (tl a) i r:=by
 funext k
 unfold tl upd
 by_cases h:k=i
 ·subst h;simp
 ·simp[h]
theorem nH (a:Nat→Nat) (r:Nat):tl (upd a 0 r)=tl a:=by
 funext k
 unfold tl upd
 simp
theorem kS {m:Nat} (a:Nat→Nat) {i r:Nat} (hi:i < m) (hr:r≤a i):sm (upd a i r) m+r=sm a m:=by
 induction m with
 | zero=>omega
 | succ m ih =>
  show sm (upd a i r) m+upd a i r m+r=sm a m+a m
  by_cases h:i=m
  ·subst h
   rw[Pd,CY (n:=i) (f:=upd a i r) (g:=a) fun j hj=>upd_ne a r (by omega)]
   omega
  ·have := ih (by omega)
   rw[upd_ne a r (Ne.symm h)]
   omega
theorem Ng (m : Nat) : ∀ (rs : List Nat) (a : Nat → Nat), Dy rs = sm a (m + 1) → W (m + 1) rs a = D m rs (a 0) [] (tl a)
 | [], a, h => by
  have h0:a 0=0:=by
   rw[Ir] at h
   have:Dy ([]:List Nat)=0:=rfl
   omega
  show 1=if a 0=0 then W m [] (tl a) else 0
  rw[if_pos h0];rfl
 | r :: rs, a, h => by
  have hs:Dy (r::rs)=r+Dy rs:=rfl
  show sm (fun i=>if r≤a i then W (m+1) rs (upd a i r) else 0) (m+1)=(if r≤a 0 then D m rs (a 0 - r) [] (tl a) else 0)+D m rs (a 0) [r] (tl a)
  rw[Ir,kR]
  congr 1
  ·by_cases h0 : r ≤ a 0
   ·rw[if_pos h0,if_pos h0,Ng m rs (upd a 0 r) (by have:=kS a (m:=m+1) (i:=0) (by omega) h0;omega),Pd,nH]
   ·rw[if_neg h0,if_neg h0]
  ·refine CY fun i hi => ?_
   show (if r≤a (i+1) then W (m+1) rs (upd a (i+1) r) else 0)=if r≤a (i+1) then D m rs (a 0) [] (upd (tl a) i r) else 0
   by_cases h0:r≤a (i+1)
   ·rw[if_pos h0,if_pos h0,Ng m rs (upd a (i+1) r) (by have:=kS a (m:=m+1) (i:=i+1) (by omega) h0;omega),Aby,upd_ne a r (by omega)]
   ·rw[if_neg h0,if_neg h0]
def C : Nat → Nat → Nat
 | _,0=>1
 | 0,_+1=>0
 | n+1,k+1=>C n k+C n (k+1)
theorem UG : ∀ {n k : Nat}, n < k → C n k = 0
 | 0,k+1,_=>rfl
 | n+1,k+1,h=>by show C n k+C n (k+1)=0;rw[UG (by omega),UG (by omega)]
theorem IB (n:Nat):C n 0=1:=by cases n <;> rfl
theorem Pe : ∀ (n k : Nat), k ≤ n → C n (k + 1) * (k + 1) = C n k * (n - k)
 | 0,0,_=>rfl
 | n + 1, 0, _ => by
  have:=Pe n 0 (by omega)
  show (C n 0+C n 1)*1=C (n+1) 0*(n+1)
  rw[IB,Nat.zero_add,Nat.mul_one,Nat.one_mul,Nat.sub_zero] at this
  rw[IB,IB,this];omega
 | n + 1, k + 1, h => by
  show (C n (k+1)+C n (k+1+1))*(k+1+1)=(C n k+C n (k+1))*(n+1 - (k+1))
  have h1:=Pe n k (by omega)
  by_cases e:k=n
  ·subst e
   rw[UG (show k < k+1 by omega),UG (show k < k+1+1 by omega)];simp
  ·have h2 := Pe n (k + 1) (by omega)
   obtain⟨d,rfl⟩:∃ d,n=k+1+d:=⟨n - (k+1),by omega⟩
   rw[show k+1+d - k=d+1 by omega] at h1
   rw[show k+1+d - (k+1)=d by omega] at h2
   rw[show k+1+d+1 - (k+1)=d+1 by omega,Nat.add_mul,h2,Nat.add_mul,←h1]
   rw[Nat.mul_add (C (k+1+d) (k+1)) d 1,Nat.mul_add (C (k+1+d) (k+1)) (k+1) 1];omega
theorem Pf {α : Type} (x : α) : ∀ (n : Nat) (l : List α), List.replicate n x ++ x :: l = List.replicate (n + 1) x ++ l
 | 0,_=>rfl
 | n + 1, l => by
  show x::(List.replicate n x++x::l)=x::(List.replicate (n+1) x++l)
  rw[Pf x n l]
theorem Yl (m s : Nat) (rs : List Nat) (a : Nat → Nat) : ∀ (n v : Nat) (acc : List Nat), D m (List.replicate n s ++ rs) v acc a = sm (fun k => if k * s ≤ v then C n k * D m rs (v - k * s) (List.replicate (n - k) s ++ acc) a else 0) (n + 1)
 | 0, v, acc => by
  show D m rs v acc a=0+(if 0*s≤v then C 0 0*D m rs (v - 0*s) acc a else 0)
  rw[Nat.zero_mul,if_pos (Nat.zero_le _),IB,Nat.one_mul,Nat.zero_add,Nat.sub_zero]
 | n + 1, v, acc => by
  show (if s≤v then D m (List.replicate n s++rs) (v - s) acc a else 0)+D m (List.replicate n s++rs) v (s::acc) a=_
  rw[Yl m s rs a n v (s::acc),Ir (fun k=>if k*s≤v then C (n+1) k*_ else 0) (n+1)]
  have e1:(if s≤v then D m (List.replicate n s++rs) (v - s) acc a else 0)=sm (fun k=>if (k+1)*s≤v then C n k*D m rs (v - (k+1)*s) (List.replicate (n - k) s++acc) a else 0) (n+1):=by
   by_cases h:s≤v
   ·rw [if_pos h, Yl m s rs a n (v - s) acc]
    refine CY fun k _=>?_
    rw[Nat.succ_mul]
    by_cases h2:k*s≤v - s
    ·rw[if_pos h2,if_pos (by omega),show v - s - k*s=v - (k*s+s) by omega]
    ·rw[if_neg h2,if_neg (by omega)]
   ·rw [if_neg h]
    refine(JP (n+1)).symm.trans (CY fun k _=>(if_neg ?_).symm)
    rw[Nat.succ_mul];omega
  rw[e1]
  -- the other half
  have e2 : sm (fun k => if k * s ≤ v then C n k * D m rs (v - k * s) (List.replicate (n - k) s ++ s :: acc) a else 0) (n + 1)
   = (if 0*s≤v then C (n+1) 0*D m rs (v - 0*s) (List.replicate (n+1 - 0) s++acc) a else 0)+sm (fun k=>if (k+1)*s≤v then C n (k+1)*D m rs (v - (k+1)*s) (List.replicate (n+1 - (k+1)) s++acc) a else 0) (n+1):=by
   have hz:sm (fun k=>if (k+1)*s≤v then C n (k+1)*D m rs (v - (k+1)*s) (List.replicate (n+1 - (k+1)) s++acc) a else 0) (n+1)=sm (fun k=>if (k+1)*s≤v then C n (k+1)*D m rs (v - (k+1)*s) (List.replicate (n+1 - (k+1)) s++acc) a else 0) n:=by
    show _+(if (n+1)*s≤v then C n (n+1)*_ else 0)=_
    rw[UG (Nat.lt_succ_self n),Nat.zero_mul];simp
   rw[hz,Ir]
   congr 1
   ·rw[Nat.zero_mul,if_pos (Nat.zero_le _),if_pos (Nat.zero_le _),IB,IB,Nat.sub_zero n,Pf,Nat.sub_zero (n+1)]
   ·refine CY fun k hk => ?_
    rw[Pf,show n - (k+1)+1=n+1 - (k+1) by omega]
  rw[e2,←Nat.add_assoc,Nat.add_comm (sm _ (n+1)),Nat.add_assoc,←SE]
  congr 1
  refine CY fun k hk=>?_
  rw[show n+1 - (k+1)=n - k by omega]
  by_cases h:(k+1)*s≤v
  ·rw[if_pos h,if_pos h,if_pos h,←Nat.add_mul];rfl
  ·rw[if_neg h,if_neg h,if_neg h]
end Go.BkW
set_option maxRecDepth 100000
set_option maxHeartbeats 4000000
namespace Go.BkQ
open Go Go.Sp Go.BkUM
theorem p47 (k:Nat) (args:List Value):A7 (k+1) 47 args=m47 (A7 k) L args:=by kernel_rfl
theorem p50 (k:Nat) (args:List Value):A7 (k+1) 50 args=m50 (A7 k) L args:=by kernel_rfl
theorem p43 (k:Nat) (args:List Value):A7 (k+1) 43 args=m43 (A7 k) L args:=by kernel_rfl
theorem kT (pu : Af) (M f : Nat) {ts : List Int} (z : Int) (hl : ts.length < 900000) : ∀ (rest : List Int) (w i : Nat), ts.drop i = rest → rest.length < w →
 Ug pu M w (sl f ts) z (.ofNat i)=some (.bool (decide (z∈rest)))
 | _,0,_,_,h=>by omega
 | [], w + 1, i, hd, _ => by
  have h1:=iN hd
  show bb (AY (.ofNat i) (.ofNat ts.length)) _ (some (Value.bool false))=_
  rw[Bp,decide_eq_false (by omega),AA];simp
 | y :: rest, w + 1, i, hd, hw => by
  obtain⟨hd2,hi,_⟩:=iM hd
  have hlt:Nat.blt i ts.length=true:=by rw[blt_eq];simp;omega
  have hrl:(y::rest).length=rest.length+1:=rfl
  show Uf pu M (Ug pu M w) (sl f ts) z (.ofNat i)=_
  unfold Uf
  rw[I4,Bp,decide_eq_true hi,Ak,Cx,Ac,hlt,show an true true=true from rfl,Ak,GX,Abt hd,Ac,BP,Ac,Dn,DC i (by omega),kT pu M f z hl rest w (i+1) hd2 (by omega)]
  by_cases h:y=z
  ·subst h;simp
  ·rw [decide_eq_false h]
   have:decide (z∈y::rest)=decide (z∈rest):=by
    by_cases h2:z∈rest
    ·simp[h2]
    ·rw [decide_eq_false h2, decide_eq_false fun h3 => by
      rcases List.mem_cons.1 h3 with e | e
      ·exact h e.symm
      ·exact h2 e]
   rw[this];rfl
theorem Abz (n f:Nat) {ts:List Int} (z:Int) (hl:ts.length < 900000):A7 (n+1) 47 [S f ts,I z]=some (.bool (decide (z∈ts))):=by
 rw[p47]
 exact kT (A7 n) L f z hl ts L 0 List.drop_zero (by show _ < 1000000;omega)
end Go.BkQ
set_option maxRecDepth 100000
set_option maxHeartbeats 4000000
namespace Go.BkQ
open Go Go.Sp Go.BkUM
theorem kU:Au (fun p:Nat×Nat×List Nat=>Au (fun t=>WR (FN (Nat.beq p.1 p.2.1)) t) p.2.2) BO=true:=by kernel_rfl
theorem UH {r c:Nat} {us:List Nat} (hg:(r,c,us)∈BO) {t:Nat} (ht:t∈us):t∈FN (Nat.beq r c):=by
 have h:=kU
 rw[Bh,List.all_eq_true] at h
 have h:=h _ hg
 rw[Bh,List.all_eq_true] at h
 exact iU.1 (h t ht)
end Go.BkQ
set_option maxRecDepth 100000
set_option maxHeartbeats 4000000
namespace Go.BkQ
open Go Go.Sp Go.BkUM
end Go.BkQ
set_option maxRecDepth 100000
set_option maxHeartbeats 4000000
namespace Go.BkQ
open Go Go.Sp Go.BkUM
theorem kV (r c k f:Nat) (us:List Nat):(Value.agg ⟨[I (.ofNat r),I (.ofNat c),I (.ofNat k),S f (us.map Int.ofNat)]⟩)=SA r c k f us:=by
 unfold S;rw[UD];rfl
end Go.BkQ
set_option maxRecDepth 100000
set_option maxHeartbeats 4000000
namespace Go.BkQ
open Go Go.Sp Go.BkUM Go.BkW
def am (Q:List Nat):Nat→Nat:=fun i=>Q.getD i 0
theorem AbA {Q:List Nat} {i:Nat} (r:Nat) (hi:i < Q.length):am (Q.set i (Q[i] - r))=upd (am Q) i r:=by
 funext j
 unfold am upd
 by_cases h:j=i
 ·subst h;simp[List.getD_eq_getElem?_getD,hi]
 ·rw[if_neg h];simp[List.getD_eq_getElem?_getD,List.getElem?_set,Ne.symm h]
theorem LX {Q:List Nat} {i:Nat} (hi:i < Q.length):am Q i=Q[i]:=by unfold am;simp[List.getD_eq_getElem?_getD,hi]
theorem Hw (l:List Nat):len (Ca l)=l.length:=by rw[AV,show Ca l=l.map fun n=>IV (Int.ofNat n) from Cc _ _,List.length_map]
theorem SF {l:List Nat} {i a:Nat} (h:i < l.length) (ha:a=i):AL (Ca l) a=some (.int .i64 (.ofNat l[i])):=by
 subst ha
 rw[BZ,show Ca l=l.map fun n=>IV (Int.ofNat n) from Cc _ _];simp[h];rfl
theorem Cs (l:List Nat):Au Ah (Ca l)=true:=by
 rw[Bh,List.all_eq_true,show Ca l=l.map fun n=>IV (Int.ofNat n) from Cc _ _]
 intro v hv
 obtain⟨z,_,rfl⟩:=List.mem_map.1 hv
 rfl
theorem WV {l:List Nat} {i a:Nat} (z:Nat) (h:i < l.length) (ha:a=i):BM ([(.int .i64 (.ofNat z))]:List Value) a (Ca l)=Ca (l.set i z):=by
 subst ha
 rw[show Ca l=l.map fun n=>IV (Int.ofNat n) from Cc _ _,Yd _ _ _ (by simpa using h),show Ca (l.set a z)=(l.set a z).map fun n=>IV (Int.ofNat n) from Cc _ _,List.map_set];rfl
theorem Ym (r:Nat) (rs:List Nat):Aq (rs.length*1) (Am (1*1) (Ca (r::rs)))=Ca rs:=by
 rw[Cg,Bz]
 show List.take (rs.length*1) (Ca rs)=Ca rs
 refine List.take_of_length_le ?_
 have:=Hw rs
 rw[AV] at this;omega
theorem kW {a b:Nat} (h:b≤a) (ha:a < 1000000):Aj .i64 (Int.sub (.ofNat a) (.ofNat b)) = .ofNat (a - b):=by
 rw[show Int.sub (.ofNat a) (.ofNat b)=((a - b:Nat):Int) from by show (a:Int) - (b:Int)=_;omega,Oe _ (by omega) (by omega)];rfl
theorem addN {a b:Nat} (h:a+b < 9223372036854775807):Aj .i64 (Int.add (.ofNat a) (.ofNat b)) = .ofNat (a+b):=by
 rw[show Int.add (.ofNat a) (.ofNat b)=((a+b:Nat):Int) from rfl,Oe _ (by omega) (by omega)];rfl
theorem Si (k:Nat) (args:List Value):A7 (k+1) 10640 args=K9 (A7 k) L args:=by kernel_rfl
theorem AbB {i n:Nat} (h:i < n):an (Nat.ble ((0+i*1)+1) n) true=true:=by
 rw[CF,ble_eq,decide_eq_true (by omega)];rfl
theorem qW {c:Nat} (hc:2≤c) (q:List Value):Dp (Nat.ble 2 c) (MQ q)=true:=by rw[ble_eq,decide_eq_true hc];rfl
theorem K4 (K M : Nat) {m c r f : Nat} {rs : List Nat} (hc : 2 ≤ c) (hm4 : m ≤ 4) (hrl : (r :: rs).length ≤ 16) (hf : Nat.beq f 2 = false) {Q : List Nat} (hQ : Q.length = m) (hQ16 : ∀ x ∈ Q, x ≤ 1000)
 (ih:∀ (f':Nat) (Q:List Nat),Nat.beq f' 2=false→Q.length=m→(∀ x∈Q,x≤1000)→A7 K 10640 [Sl.v 1 ⟨rs.length,f',Ca rs⟩,.slice (some ⟨1,0,some 1⟩) m c,.agg ⟨Ca Q⟩]=some (.tuple ⟨[I (.ofNat (W m rs (am Q))),.agg ⟨Ca Q⟩]⟩)) :
 ∀ (d w i z : Nat), i + d = m → d < w → z = sm (fun i => if r ≤ am Q i then W m rs (upd (am Q) i r) else 0) i →
  Fh (A7 K) M w ⟨(r::rs).length,f,Ca (r::rs)⟩ m c (.ofNat z) (.ofNat i) (Ca Q)=some (.tuple ⟨[I (.ofNat (W m (r::rs) (am Q))),.agg ⟨Ca Q⟩]⟩)
 | _,0,_,_,_,h,_=>by omega
 | 0, w + 1, i, z, hd, _, hz => by
  obtain rfl:i=m:=by omega
  show Gp (A7 K) M (Fh (A7 K) M w) ⟨(r::rs).length,f,Ca (r::rs)⟩ i c (.ofNat z) (.ofNat i) (Ca Q)=_
  unfold Gp Jg
  simp only[Cs,Ak,Bp,show ¬ i < i from Nat.lt_irrefl i,decide_false,AA]
  rw[hz];rfl
 | d + 1, w + 1, i, z, hd, hw, hz => by
  have hi:i < Q.length:=by omega
  have hQi:Q[i]≤1000:=hQ16 _ (List.getElem_mem hi)
  have hb1:an (Nat.blt i m) true=true:=by rw[CF,blt_eq,decide_eq_true (by omega)];rfl
  have hb0:an (Nat.blt 0 (r::rs).length) true=true:=by rw[CF,blt_eq,decide_eq_true (by simp)];rfl
  have g1:=SF (l:=Q) (i:=i) hi (a:=0+i*1) (by omega)
  have g0:AL (Ca (r::rs)) (0*1)=some (.int .i64 (.ofNat r)):=rfl
  have hWle:∀ a,W m rs a≤4 ^ 15:=fun a=>Nat.le_trans (ZG m rs a) (Nat.le_trans (Nat.pow_le_pow_left hm4 _) (Nat.pow_le_pow_right (by omega) (by simpa using hrl)))
  have hzle:z≤4*4 ^ 15:=by
   rw[hz]
   refine Nat.le_trans (UF (b:=4 ^ 15) fun j _=>?_) (Nat.mul_le_mul_right _ (by omega))
   split
   ·exact hWle _
   ·exact Nat.zero_le _
  show Gp (A7 K) M (Fh (A7 K) M w) ⟨(r::rs).length,f,Ca (r::rs)⟩ m c (.ofNat z) (.ofNat i) (Ca Q)=_
  have hnext:∀ z',z'=sm (fun i=>if r≤am Q i then W m rs (upd (am Q) i r) else 0) (i+1)→Fh (A7 K) M w ⟨(r::rs).length,f,Ca (r::rs)⟩ m c (.ofNat z') (.ofNat (i+1)) (Ca Q)=some (.tuple ⟨[I (.ofNat (W m (r::rs) (am Q))),.agg ⟨Ca Q⟩]⟩):=fun z' h=>K4 K M hc hm4 hrl hf hQ hQ16 ih d w (i+1) z' (by omega) (by omega) h
  unfold Gp Jh
  by_cases h:r≤Q[i]
  ·have e1 : Aj .i64 (Int.sub (.ofNat Q[i]) (.ofNat r)) = .ofNat (Q[i] - r) := kW h (by omega)
   have e2:=WV (l:=Q) (i:=i) (Q[i] - r) hi (a:=0+i*1) (by omega)
   have hi2:i < (Q.set i (Q[i] - r)).length:=by simpa using hi
   have g2:=SF (l:=Q.set i (Q[i] - r)) (i:=i) hi2 (a:=0+i*1) (by omega)
   rw[List.getElem_set_self] at g2
   have e3:=WV (l:=Q.set i (Q[i] - r)) (i:=i) Q[i] hi2 (a:=0+i*1) (by omega)
   have e4:(Q.set i (Q[i] - r)).set i Q[i]=Q:=by rw[List.set_set,List.set_getElem_self]
   rw[e4] at e3
   have e5:Aj .i64 (Int.add (.ofNat (Q[i] - r)) (.ofNat r)) = .ofNat Q[i]:=by rw[addN (by omega)];congr 1;omega
   have e6:=ih (bb (an (Nat.beq (r::rs).length (r::rs).length) (Dp false (Nat.beq f 1))) 1 0) (Q.set i (Q[i] - r)) (by cases an (Nat.beq (r::rs).length (r::rs).length) (Dp false (Nat.beq f 1)) <;> rfl) (by simpa using hQ) (fun x hx=>by
    rcases List.mem_or_eq_of_mem_set hx with hx | rfl
    ·exact hQ16 x hx
    ·omega)
   have e7:Aj .i64 (Int.add (.ofNat z) (.ofNat (W m rs (am (Q.set i (Q[i] - r)))))) = .ofNat (z+W m rs (am (Q.set i (Q[i] - r)))):=addN (by have:=hWle (am (Q.set i (Q[i] - r)));omega)
   have hb2:Nat.ble 1 (r::rs).length=true:=by rw[ble_eq];simp
   simp only[Cs,Ak,Bp,show i < m from by omega,decide_true,Cx,Ac,hb1,g1,BP,hb0,g0,show ¬ Q[i] < r from by omega,decide_false,show nt false=true from rfl,e1,e2,Hw,List.length_set,AbB (show i < Q.length from hi),hf,hb2,qW hc,Ym,show (r::rs).length - 1=rs.length from rfl,e6,FW,Dj,EG,RL,g2,e3,e5,e7,DC i (by omega)]
   refine hnext _ ?_
   show z+_=sm _ i+(if r≤am Q i then W m rs (upd (am Q) i r) else 0)
   rw[←hz,if_pos (by rw[LX hi];exact h),AbA r hi]
  ·simp only [Cs, Ak, Bp, show i < m from by omega, decide_true, Cx, Ac, hb1, g1, BP, hb0, g0, show Q[i] < r from by omega, show nt true = false from rfl, AA, DC i (by omega)]
   refine hnext _ ?_
   show z=sm _ i+(if r≤am Q i then W m rs (upd (am Q) i r) else 0)
   rw[←hz,if_neg (by rw[LX hi];exact h),Nat.add_zero]
theorem Pg (n : Nat) {m c : Nat} (hc : 2 ≤ c) (hm4 : m ≤ 4) : ∀ (rs : List Nat) (f : Nat) (Q : List Nat), rs.length ≤ 16 → Nat.beq f 2 = false → Q.length = m → (∀ x ∈ Q, x ≤ 1000) →
 A7 (n+rs.length+1) 10640 [Sl.v 1 ⟨rs.length,f,Ca rs⟩,.slice (some ⟨1,0,some 1⟩) m c,.agg ⟨Ca Q⟩]=some (.tuple ⟨[I (.ofNat (W m rs (am Q))),.agg ⟨Ca Q⟩]⟩)
 | [], f, Q, _, _, hQ, _ => by
  rw[Si]
  show bb (Au Ah (Ca Q)) (some (Value.tuple ⟨[I 1,.agg ⟨Ca Q⟩]⟩)) none=_
  rw[Cs];rfl
 | r :: rs, f, Q, hrl, hf, hQ, hQ16 => by
  rw[show n+(r::rs).length+1=n+rs.length+1+1 from rfl,Si]
  show bb (Au Ah (Ca Q)) (Fh (A7 (n+rs.length+1)) L L ⟨(r::rs).length,f,Ca (r::rs)⟩ m c (.ofNat 0) (.ofNat 0) (Ca Q)) none=_
  rw[Cs,Ak]
  exact K4 (n+rs.length+1) L hc hm4 hrl hf hQ hQ16 (fun f' Q' hf' hQ' h=>Pg n hc hm4 rs f' Q' (by simp at hrl;omega) hf' hQ' h) m L 0 0 (by omega) (by show _ < 1000000;omega) rfl
end Go.BkQ
set_option maxRecDepth 100000
set_option maxHeartbeats 4000000
namespace Go.BkW
def ex : Nat → Nat → List Nat → List Nat
 | 0,_,_=>[]
 | d+1,s,P=>List.replicate (P.getD s 0) s++ex d (s+1) P
def lo : Nat → List Nat → List Nat
 | 0,_=>[]
 | s+1,P=>List.replicate (P.getD s 0) s++lo s P
theorem Ph {P:List Nat} {i j v:Nat} (h:j≠i):(P.set i v).getD j 0=P.getD j 0:=by
 simp[List.getD_eq_getElem?_getD,List.getElem?_set,Ne.symm h]
theorem LY {P:List Nat} {i v:Nat} (h:i < P.length):(P.set i v).getD i 0=v:=by
 simp[List.getD_eq_getElem?_getD,h]
theorem Pi {i v : Nat} : ∀ {d s : Nat} {P : List Nat}, i < s → ex d s (P.set i v) = ex d s P
 | 0,_,_,_=>rfl
 | d + 1, s, P, h => by
  show List.replicate ((P.set i v).getD s 0) s++ex d (s+1) (P.set i v)=_
  rw[Ph (by omega),Pi (by omega)];rfl
theorem SG {i v : Nat} : ∀ {s : Nat} {P : List Nat}, s ≤ i → lo s (P.set i v) = lo s P
 | 0,_,_=>rfl
 | s + 1, P, h => by
  show List.replicate ((P.set i v).getD s 0) s++lo s (P.set i v)=_
  rw[Ph (by omega),SG (by omega)];rfl
theorem UI (a b:List Nat):Dy (a++b)=Dy a+Dy b:=by
 induction a with
 | nil=>show Dy b=0+Dy b;omega
 | cons x a ih=>show x+Dy (a++b)=x+Dy a+Dy b;omega
theorem Pj (n s:Nat):Dy (List.replicate n s)=n*s:=by
 induction n with
 | zero=>simp[Dy]
 | succ n ih=>show s+Dy (List.replicate n s)=_;rw[ih,Nat.succ_mul];omega
theorem UJ : ∀ (n k : Nat), C n k ≤ 2 ^ n
 | 0,0=>Nat.le_refl 1
 | 0,_+1=>Nat.zero_le _
 | n+1,0=>by rw[IB];exact Nat.one_le_two_pow
 | n + 1, k + 1 => by
  show C n k+C n (k+1)≤2 ^ (n+1)
  have:=UJ n k
  have:=UJ n (k+1)
  rw[Nat.pow_succ];omega
theorem AbC (m : Nat) : ∀ (rs : List Nat) (v : Nat) (acc : List Nat) (a : Nat → Nat), D m rs v acc a ≤ (m + 1) ^ rs.length * m ^ acc.length
 | [], v, acc, a => by
  show (if v=0 then W m acc a else 0)≤1*m ^ acc.length
  split
  ·rw[Nat.one_mul];exact ZG m acc a
  ·exact Nat.zero_le _
 | r :: rs, v, acc, a => by
  show (if r≤v then D m rs (v - r) acc a else 0)+D m rs v (r::acc) a≤(m+1) ^ (rs.length+1)*m ^ acc.length
  have h1:(if r≤v then D m rs (v - r) acc a else 0)≤(m+1) ^ rs.length*m ^ acc.length:=by
   split
   ·exact AbC m rs _ acc a
   ·exact Nat.zero_le _
  have h2:=AbC m rs v (r::acc) a
  rw[List.length_cons,Nat.pow_succ,←Nat.mul_assoc] at h2
  rw[Nat.pow_succ]
  calc _ ≤ (m + 1) ^ rs.length * m ^ acc.length + (m + 1) ^ rs.length * m ^ acc.length * m := Nat.add_le_add h1 h2
   _=(m+1) ^ rs.length*(m+1)*m ^ acc.length:=by
    rw[Nat.mul_assoc ((m+1) ^ rs.length) (m+1),Nat.add_mul m 1,Nat.one_mul,Nat.mul_add,Nat.add_comm,Nat.mul_assoc,Nat.mul_comm (m ^ acc.length) m]
theorem Yn {f : Nat → Nat} {k : Nat} : ∀ {n : Nat}, k ≤ n → (∀ j, k ≤ j → j < n → f j = 0) → sm f k = sm f n
 | 0, h, _ => by obtain rfl : k = 0 := by omega
                 rfl
 | n + 1, h, h0 => by
  by_cases e:k=n+1
  ·rw[e]
  ·show _ = sm f n + f n
   rw[h0 n (by omega) (by omega),Nat.add_zero]
   exact Yn (by omega) fun j h1 h2=>h0 j h1 (by omega)
theorem nI {f:Nat→Nat} {k n:Nat} (h:k≤n):sm f k≤sm f n:=by
 induction n with
 | zero => obtain rfl : k = 0 := by omega
           exact Nat.le_refl _
 | succ n ih =>
  by_cases e:k=n+1
  ·rw[e];exact Nat.le_refl _
  ·exact Nat.le_trans (ih (by omega)) (Nat.le_add_right _ _)
theorem qX : ∀ (rs : List Nat) (a : Nat → Nat), Dy rs = a 0 → W 1 rs a = 1
 | [],_,_=>rfl
 | r :: rs, a, h => by
  have hs:Dy (r::rs)=r+Dy rs:=rfl
  show 0+(if r≤a 0 then W 1 rs (upd a 0 r) else 0)=1
  rw[if_pos (by omega),qX rs (upd a 0 r) (by rw[Pd];omega)]
theorem qY (P : List Nat) : ∀ (d s : Nat), (ex d s P ++ lo s P).Perm (lo (s + d) P)
 | 0,s=>by simp[ex]
 | d + 1, s => by
  have ih:=qY P d (s+1)
  rw[show s+(d+1)=s+1+d by omega]
  refine List.Perm.trans ?_ ih
  show (List.replicate (P.getD s 0) s++ex d (s+1) P++lo s P).Perm (ex d (s+1) P++(List.replicate (P.getD s 0) s++lo s P))
  rw[←List.append_assoc]
  exact List.perm_append_comm.append_right _
end Go.BkW
namespace Go.BkQ
open Go Go.Sp Go.BkUM Go.BkW
theorem mulN {a b:Nat} (h:a*b < 9223372036854775807):Aj .i64 (Int.mul (.ofNat a) (.ofNat b)) = .ofNat (a*b):=by
 rw[show Int.mul (.ofNat a) (.ofNat b)=((a*b:Nat):Int) from rfl,Oe _ (by omega) (by omega)];rfl
theorem p60 (k:Nat) (args:List Value):A7 (k+1) 60 args=m60 (A7 k) L args:=by kernel_rfl
theorem Sj (k:Nat) (args:List Value):A7 (k+1) 10850 args=LJ (A7 k) L args:=by kernel_rfl
noncomputable def fnV:Value:=.func (.func 85) ⟨[]⟩ ⟨[.pointer (some ⟨1,0,none⟩),.pointer (some ⟨2,0,none⟩),.pointer (some ⟨3,0,none⟩)]⟩
noncomputable def Yo (s left ways:Nat) (P:List Nat) (S:Sl):List Value:=[I (.ofNat s),I (.ofNat left),I (.ofNat ways),.pointer (some ⟨1,0,none⟩),.pointer (some ⟨2,0,none⟩),.pointer (some ⟨3,0,none⟩),.agg ⟨Ca P⟩,.agg ⟨[Sl.v 1 S]⟩,.agg ⟨[fnV]⟩]
noncomputable def Pk (n:Nat) (P:List Nat) (S:Sl):Value:=.tuple ⟨[I (.ofNat n),.agg ⟨Ca P⟩,.agg ⟨[Sl.v 1 S]⟩,.agg ⟨[fnV]⟩]⟩
theorem Yp:SQ 85 0 (.func (.func 85) ⟨[]⟩ ⟨[.pointer (some ⟨1,0,none⟩),.pointer (some ⟨2,0,none⟩),.pointer (some ⟨3,0,none⟩)]⟩)=some [.pointer (some ⟨1,0,none⟩),.pointer (some ⟨2,0,none⟩),.pointer (some ⟨3,0,none⟩)]:=rfl
theorem qZ:Gm (.pointer (some ⟨1,0,none⟩)) 1 0=true:=rfl
theorem rA:Gm (.pointer (some ⟨2,0,none⟩)) 2 0=true:=rfl
theorem rC:Gm (.pointer (some ⟨3,0,none⟩)) 3 0=true:=rfl
noncomputable def Iy (m d s left ways:Nat) (P:List Nat) (a:Nat→Nat) (k:Nat):Nat:=if k*s≤left then ways*C (P.getD s 0) k*D m (ex d (s+1) P) (left - k*s) (List.replicate (P.getD s 0 - k) s++lo s P) a else 0
theorem QD (K M : Nat) {m d s left ways : Nat} {P : List Nat} {a : Nat → Nat} {S : Sl} (hP : P.length = 17) (hs : s < 17) (hs1 : 1 ≤ s) (hleft : left ≤ 1000) (hh : P.getD s 0 ≤ 16)
 (hb:sm (Iy m d s left ways P a) (P.getD s 0+1)≤2 ^ 50) (hw:ways*2 ^ P.getD s 0≤65536)
 (ih:∀ k,k≤P.getD s 0→k*s≤left→A7 K 10850 (Yo (s+1) (left - k*s) (ways*C (P.getD s 0) k) (P.set s (P.getD s 0 - k)) S)=some (Pk (ways*C (P.getD s 0) k*D m (ex d (s+1) P) (left - k*s) (List.replicate (P.getD s 0 - k) s++lo s P) a) (P.set s (P.getD s 0 - k)) S)) :
 ∀ (e w k x : Nat), k + e = P.getD s 0 + 1 → e < w →
  Gq (A7 K) M w (.ofNat s) (.ofNat left) (.ofNat ways) (.ofNat (sm (Iy m d s left ways P a) k)) (.ofNat (P.getD s 0)) (.ofNat k) (.ofNat (C (P.getD s 0) k)) (Ca (P.set s x)) S=some (Pk (sm (Iy m d s left ways P a) (P.getD s 0+1)) P S)
 | _,0,_,_,_,h=>by omega
 | e, w + 1, k, x, he, hw' => by
  have hsP:s < P.length:=by omega
  have hset:∀ y v,(P.set s y).set s v=P.set s v:=fun y v=>List.set_set ..
  have hback:P.set s (P.getD s 0)=P:=by
   have:P.getD s 0=P[s]:=by simp[List.getD_eq_getElem?_getD,hsP]
   rw[this,List.set_getElem_self]
  have hl1:∀ y,(P.set s y).length=17:=fun y=>by simp[hP]
  have e1:∀ y v,BM ([(.int .i64 (.ofNat v))]:List Value) (0+s*1) (Ca (P.set s y))=Ca (P.set s v):=fun y v=>by rw[WV (l:=P.set s y) v (by rw[hl1];exact hs) (by omega),hset]
  have hb17:Nat.blt s 17=true:=by rw[blt_eq];exact decide_eq_true hs
  show Jj (A7 K) M (Gq (A7 K) M w) (.ofNat s) (.ofNat left) (.ofNat ways) (.ofNat (sm (Iy m d s left ways P a) k)) (.ofNat (P.getD s 0)) (.ofNat k) (.ofNat (C (P.getD s 0) k)) (Ca (P.set s x)) S=_
  have hend:∀ n,HY (A7 K) M (.ofNat s) n (.ofNat (P.getD s 0)) (Ca (P.set s x)) S=some (.tuple ⟨[I n,.agg ⟨Ca P⟩,.agg ⟨[Sl.v 1 S]⟩,.agg ⟨[fnV]⟩]⟩):=fun n=>by
   unfold HY
   simp only[Cx,Ac,hb17,Ak,e1,hback,Hw,hl1,AbB hs,Cs]
   rfl
  unfold Jj Ji
  by_cases hk:k≤P.getD s 0
  ·have hks : k * s ≤ 16 * 17 := Nat.mul_le_mul (by omega) (by omega)
   have hmul:Aj .i64 (Int.mul (.ofNat k) (.ofNat s)) = .ofNat (k*s):=mulN (by omega)
   by_cases hl:k*s≤left
   ·have i1 := ih k hk hl
    unfold Yo Pk fnV at i1
    have hCw:ways*C (P.getD s 0) k≤65536:=Nat.le_trans (Nat.mul_le_mul_left _ (UJ _ _)) hw
    have hC:C (P.getD s 0) k≤65536:=Nat.le_trans (UJ _ _) (Nat.pow_le_pow_right (by omega) hh)
    have hmul2:Aj .i64 (Int.mul (.ofNat ways) (.ofNat (C (P.getD s 0) k))) = .ofNat (ways*C (P.getD s 0) k):=mulN (by omega)
    have hsub1:Aj .i64 (Int.sub (.ofNat (P.getD s 0)) (.ofNat k)) = .ofNat (P.getD s 0 - k):=kW hk (by omega)
    have hsub2:Aj .i64 (Int.sub (.ofNat left) (.ofNat (k*s))) = .ofNat (left - k*s):=kW hl (by omega)
    have hCn:C (P.getD s 0) k*(P.getD s 0 - k)≤65536*16:=Nat.mul_le_mul hC (by omega)
    have hmul3:Aj .i64 (Int.mul (.ofNat (C (P.getD s 0) k)) (.ofNat (P.getD s 0 - k))) = .ofNat (C (P.getD s 0) k*(P.getD s 0 - k)):=mulN (by omega)
    have hdiv:Aj .i64 (Int.tdiv (.ofNat (C (P.getD s 0) k*(P.getD s 0 - k))) (.ofNat (k+1))) = .ofNat (C (P.getD s 0) (k+1)):=by
     rw[←Pe _ _ hk,show Int.tdiv (.ofNat (C (P.getD s 0) (k+1)*(k+1))) (.ofNat (k+1))=((C (P.getD s 0) (k+1)*(k+1) / (k+1):Nat):Int) from rfl,Nat.mul_div_cancel _ (by omega)]
     have:C (P.getD s 0) (k+1)≤65536:=Nat.le_trans (UJ _ _) (Nat.pow_le_pow_right (by omega) hh)
     rw[Oe _ (by omega) (by omega)];rfl
    have hterm:Iy m d s left ways P a k=ways*C (P.getD s 0) k*D m (ex d (s+1) P) (left - k*s) (List.replicate (P.getD s 0 - k) s++lo s P) a:=if_pos hl
    have hsum:sm (Iy m d s left ways P a) (k+1)≤2 ^ 50:=Nat.le_trans (nI (by omega)) hb
    have hadd:Aj .i64 (Int.add (.ofNat (sm (Iy m d s left ways P a) k)) (.ofNat (ways*C (P.getD s 0) k*D m (ex d (s+1) P) (left - k*s) (List.replicate (P.getD s 0 - k) s++lo s P) a))) = .ofNat (sm (Iy m d s left ways P a) (k+1)):=by
     rw[←hterm]
     have hsum':sm (Iy m d s left ways P a) k+Iy m d s left ways P a k≤2 ^ 50:=hsum
     exact addN (by omega)
    obtain⟨e',rfl⟩:∃ e',e=e'+1:=⟨e - 1,by omega⟩
    have hnext:=QD K M hP hs hs1 hleft hh hb hw ih e' w (k+1) (P.getD s 0 - k) (by omega) (by omega)
    simp only[Bp,show ¬ P.getD s 0 < k from by omega,decide_false,show nt false=true from rfl,Ak,Cs,hmul,show ¬ left < k*s from by omega,Cx,Ac,hb17,hsub1,e1,Hw,hl1,AbB hs,hsub2,hmul2,DC s (by omega),i1,FW,Dj,EG,BP,RL,Dc,Yp,qZ,rA,rC,DC k (by omega),Dn,hadd,hmul3,hdiv]
    rw[show decide (Int.ofNat (k+1)=0)=false from decide_eq_false (by intro h;cases h),show nt false=true from rfl,Ak]
    exact hnext
   ·simp only [Bp, show ¬ P.getD s 0 < k from by omega, decide_false, show nt false = true from rfl, Ak, Cs, hmul, show left < k * s from by omega, decide_true, show nt true = false from rfl, AA, hend]
    rw[Yn (f:=Iy m d s left ways P a) (k:=k) (n:=P.getD s 0+1) (by omega) fun j h1 h2=>if_neg (by have:=Nat.mul_le_mul_right s h1;omega)]
    rfl
  ·obtain rfl : k = P.getD s 0 + 1 := by omega
   simp only[Bp,show P.getD s 0 < P.getD s 0+1 from by omega,decide_true,show nt true=false from rfl,AA,Cs,Ak,hend]
   rfl
end Go.BkQ
set_option maxRecDepth 100000
set_option maxHeartbeats 4000000
namespace Go.BkQ
open Go Go.Sp Go.BkUM Go.BkW
structure nJ (P Q:List Nat):Prop where
 len:P.length=17
 zero:P.getD 0 0=0
 few:(lo 17 P).length≤16
 sum:Dy (lo 17 P)=sm (am Q) Q.length
 one:1≤Q.length
 four:Q.length≤4
 small:∀ x∈Q,x≤1000
def kX (k m:Nat):Prop:=∀ (P Q:List Nat) (f:Nat),Q.length=m→nJ P Q→Nat.beq f 2=false→A7 k 60 [.agg ⟨Ca P⟩,Sl.v 1 ⟨Q.length,f,Ca Q⟩]=some (I (.ofNat (W Q.length (lo 17 P) (am Q))))
theorem rD (x:Nat) (Q:List Nat):tl (am (x::Q))=am Q:=by funext i;simp[tl,am]
theorem QE (x:Nat) (Q:List Nat):sm (am (x::Q)) (Q.length+1)=x+sm (am Q) Q.length:=by
 rw[Ir]
 rfl
theorem AbD {P:List Nat} (h:P.length=17):Aq 17 (Am 0 (Ca P))=Ca P:=by
 rw[Cg,Bz,List.drop_zero]
 refine List.take_of_length_le ?_
 have:=Hw P
 rw[AV] at this;omega
theorem WW (l:List Nat):closed2 (.agg ⟨Ca l⟩)=true:=Cs l
theorem WX (n f:Nat) (l:List Value):closed2 (Sl.v 1 ⟨n,f,l⟩)=true:=rfl
theorem Aim (l:List Nat) (n f:Nat) (q:List Value):Au closed2 [(.agg ⟨Ca l⟩),(Sl.v 1 ⟨n,f,q⟩)]=true:=by
 show an (closed2 (.agg ⟨Ca l⟩)) (an (closed2 (Sl.v 1 ⟨n,f,q⟩)) true)=true
 rw[WW,WX];rfl
theorem UK (k m : Nat) (hP0 : kX k m) (hm1 : 1 ≤ m) (hm3 : m ≤ 3) {x f : Nat} {Q : List Nat} (hQ : Q.length = m) (hQs : ∀ y ∈ Q, y ≤ 1000) (hf : Nat.beq f 2 = false) : ∀ (d s left ways : Nat) (P : List Nat), s + d = 17 → 1 ≤ s → P.length = 17 → P.getD 0 0 = 0 →
 (ex d s P).length+(lo s P).length≤16→Dy (ex d s P)+Dy (lo s P)=left+sm (am Q) m→left≤1000→ways*2 ^ (ex d s P).length≤65536 →
 A7 (k+d+1) 10850 (Yo s left ways P ⟨(x::Q).length,f,Ca (x::Q)⟩)=some (Pk (ways*D m (ex d s P) left (lo s P) (am Q)) P ⟨(x::Q).length,f,Ca (x::Q)⟩)
 | 0, s, left, ways, P, hs, _, hP, h0, hlen, hsum, hl, hw => by
  obtain rfl:s=17:=by omega
  rw[Sj]
  show bb (Au Ah (Ca P)) (bb (Bd (.ofNat 17) 17) (bb (AY 0 (.ofNat left)) (some (Pk 0 P ⟨(x::Q).length,f,Ca (x::Q)⟩)) (bb (Nat.ble (0+17) (len (Ca P))) (bb (nt (Nat.beq f 2)) (bb (Nat.ble 1 (x::Q).length) (oo (A7 (k+0) 60 [(.agg ⟨(Aq 17 (Am 0 (Ca P)))⟩),(Sl.v 1 (Sl.mk Q.length (bb (an (Nat.beq (x::Q).length (x::Q).length) (Dp false (Nat.beq f 1))) 1 0) (Aq (((x::Q).length - 1)*1) (Am (1*1) (Ca (x::Q))))))]) none fun v10134=>(oo (Bi .i64 v10134) none fun x10136=>(bb (Au closed2 [(.agg ⟨(Aq 17 (Am 0 (Ca P)))⟩),(Sl.v 1 (Sl.mk Q.length (bb (an (Nat.beq (x::Q).length (x::Q).length) (Dp false (Nat.beq f 1))) 1 0) (Aq (((x::Q).length - 1)*1) (Am (1*1) (Ca (x::Q))))))]) (some (.tuple ⟨[I (Aj .i64 (Int.mul (.ofNat ways) x10136)),.agg ⟨Ca P⟩,.agg ⟨[Sl.v 1 ⟨(x::Q).length,f,Ca (x::Q)⟩]⟩,.agg ⟨[fnV]⟩]⟩)) none))) none) none) none)) _) none=_
  rw[Cs,Ak,show Bd (.ofNat 17) 17=true from rfl,Ak,show AY 0 (.ofNat left)=AY (.ofNat 0) (.ofNat left) from rfl,Bp]
  by_cases hl0:left=0
  ·subst hl0
   have h60:=hP0 P Q (bb (an (Nat.beq (x::Q).length (x::Q).length) (Dp false (Nat.beq f 1))) 1 0) hQ ⟨hP,h0,by simpa [ex] using hlen,by rw[hQ];simpa [ex,Dy] using hsum,by omega,by omega,hQs⟩ (by cases an (Nat.beq (x::Q).length (x::Q).length) (Dp false (Nat.beq f 1)) <;> rfl)
   have hW:W Q.length (lo 17 P) (am Q)≤4 ^ 16:=Nat.le_trans (ZG _ _ _) (Nat.le_trans (Nat.pow_le_pow_left (by omega) _) (Nat.pow_le_pow_right (by omega) (by simpa [ex] using hlen)))
   have hw2:ways≤65536:=by simpa [ex] using hw
   have hmul:ways*W Q.length (lo 17 P) (am Q)≤65536*4 ^ 16:=Nat.mul_le_mul hw2 hW
   simp only[show decide (0 < 0)=false from rfl,AA,Hw,hP,show Nat.ble (0+17) 17=true from rfl,Ak,hf,show nt false=true from rfl,show Nat.ble 1 (x::Q).length=true from by rw[ble_eq];simp,AbD hP,show (x::Q).length - 1=Q.length from rfl,Ym,Nat.add_zero,h60,Ac,BP,Aim,mulN (show ways*W Q.length (lo 17 P) (am Q) < 9223372036854775807 from by omega)]
   rw[hQ];rfl
  ·rw [decide_eq_true (by omega), Ak]
   show _=some (Pk (ways*(if left=0 then _ else 0)) P _)
   rw[if_neg hl0,Nat.mul_zero]
 | d + 1, s, left, ways, P, hs, h1, hP, h0, hlen, hsum, hl, hw => by
  have hsP:s < P.length:=by omega
  have hexl:(ex (d+1) s P).length=P.getD s 0+(ex d (s+1) P).length:=by simp[ex]
  have hh:P.getD s 0≤16:=by omega
  have hs17:s < 17:=by omega
  have hnb:¬ s=17:=by omega
  have hDall:sm (Iy m d s left ways P (am Q)) (P.getD s 0+1)=ways*D m (ex (d+1) s P) left (lo s P) (am Q):=by
   show _=ways*D m (List.replicate (P.getD s 0) s++ex d (s+1) P) left (lo s P) (am Q)
   rw[Yl,←jL]
   refine CY fun j _=>?_
   unfold Iy
   split
   ·rw[Nat.mul_assoc]
   ·rw[Nat.mul_zero]
  have hbound:ways*D m (ex (d+1) s P) left (lo s P) (am Q)≤2 ^ 50:=by
   have a1:=AbC m (ex (d+1) s P) left (lo s P) (am Q)
   have a2:(m+1) ^ (ex (d+1) s P).length*m ^ (lo s P).length≤4 ^ 16:=by
    refine Nat.le_trans (Nat.mul_le_mul (Nat.pow_le_pow_left (show m+1≤4 by omega) _) (Nat.pow_le_pow_left (show m≤4 by omega) _)) ?_
    rw[←Nat.pow_add]
    exact Nat.pow_le_pow_right (by omega) hlen
   have a3:ways≤65536:=Nat.le_trans (Nat.le_mul_of_pos_right _ (Nat.two_pow_pos _)) hw
   exact Nat.le_trans (Nat.mul_le_mul a3 (Nat.le_trans a1 a2)) (by decide)
  have hg:=SF (l:=P) (i:=s) (a:=0+s*1) (by omega) (by omega)
  have hPs:P[s]=P.getD s 0:=by simp[List.getD_eq_getElem?_getD,hsP]
  rw[hPs] at hg
  rw[Sj]
  show bb (Au Ah (Ca P)) (bb (Bd (.ofNat s) 17) _ (oo (EA (.ofNat s)) none fun k10149=>(bb (Nat.blt k10149 17) (oo (AL (Ca P) (0+k10149*1)) none fun v10152=>(oo (Bi .i64 v10152) none fun x10154=>(Gq (A7 (k+(d+1))) L L (Int.ofNat k10149) (.ofNat left) (.ofNat ways) (.ofNat 0) x10154 (.ofNat 0) (.ofNat 1) (Ca P) ⟨(x::Q).length,f,Ca (x::Q)⟩))) none))) none=_
  rw[Cs,Ak,Dn,decide_eq_false (show ¬ Int.ofNat s=17 from fun h=>hnb (by have:(s:Int)=17:=h;omega)),AA,Cx,Ac,show Nat.blt s 17=true from by rw[blt_eq];exact decide_eq_true hs17,Ak,hg,Ac,BP,Ac]
  have hback:P.set s (P.getD s 0)=P:=by rw[←hPs,List.set_getElem_self]
  have hsumr:Dy (ex (d+1) s P)=P.getD s 0*s+Dy (ex d (s+1) P):=by
   show Dy (List.replicate (P.getD s 0) s++ex d (s+1) P)=_
   rw[UI,Pj]
  have hlp := QD (k + (d + 1)) L (m := m) (d := d) (s := s) (left := left) (ways := ways) (P := P) (a := am Q) (S := ⟨(x :: Q).length, f, Ca (x :: Q)⟩) hP hs17 h1 hl hh (by rw [hDall]; exact hbound)
   (Nat.le_trans (Nat.mul_le_mul_left _ (Nat.pow_le_pow_right (by omega) (by omega))) hw) (fun j hj hjs => by
     have ih:=UK k m hP0 hm1 hm3 (x:=x) hQ hQs hf d (s+1) (left - j*s) (ways*C (P.getD s 0) j) (P.set s (P.getD s 0 - j)) (by omega) (by omega) (by simpa using hP) (by rw[Ph (by omega)];exact h0) ?_ ?_ (by omega) ?_
     ·rw [Pi (by omega)] at ih
      have hlo:lo (s+1) (P.set s (P.getD s 0 - j))=List.replicate (P.getD s 0 - j) s++lo s P:=by
       show List.replicate ((P.set s (P.getD s 0 - j)).getD s 0) s++lo s (P.set s (P.getD s 0 - j))=_
       rw[LY hsP,SG (Nat.le_refl s)]
      rw[hlo] at ih
      exact ih
     ·rw [Pi (by omega)]
      show (ex d (s+1) P).length+(List.replicate ((P.set s (P.getD s 0 - j)).getD s 0) s++lo s (P.set s (P.getD s 0 - j))).length≤16
      rw[LY hsP,SG (Nat.le_refl s),List.length_append,List.length_replicate]
      omega
     ·rw [Pi (by omega)]
      show Dy (ex d (s+1) P)+Dy (List.replicate ((P.set s (P.getD s 0 - j)).getD s 0) s++lo s (P.set s (P.getD s 0 - j)))=_
      rw[LY hsP,SG (Nat.le_refl s),UI,Pj,Nat.sub_mul]
      have:=Nat.mul_le_mul_right s hj
      omega
     ·rw [Pi (by omega)]
      refine Nat.le_trans ?_ hw
      rw[hexl,Nat.pow_add,Nat.mul_assoc]
      exact Nat.mul_le_mul_left _ (Nat.mul_le_mul_right _ (UJ _ _))) (P.getD s 0+1) L 0 (P.getD s 0) (by omega) (by show _ < 1000000;omega)
  rw[hback,hDall,IB] at hlp
  exact hlp
theorem QF (k : Nat) : ∀ m, 1 ≤ m → m ≤ 4 → kX (k + m * 20) m
 | 0,h,_=>by omega
 | 1, _, _ => fun P Q f hQ ho hf => by
  have e:W Q.length (lo 17 P) (am Q)=1:=by
   rw[hQ]
   refine qX _ _ ?_
   rw[ho.sum,hQ]
   show 0+am Q 0=am Q 0;omega
  rw[e,show k+1*20=k+19+1 from rfl,p60]
  show bb (an (Nat.beq (len (Ca P)) 17) (Au Ah (Ca P))) (bb (Au Ah (Ca P)) (bb (Bd (Int.ofNat Q.length) 1) (some (I 1)) _) none) none=_
  rw[Hw,ho.len,Cs,hQ];rfl
 | m + 2, _, h4 => fun P Q f hQ ho hf => by
  have ih:=QF (k+2) (m+1) (by omega) (by omega)
  obtain⟨x,Q,rfl⟩:∃ x Q',Q=x::Q':=by
   cases Q with
   | nil=>simp at hQ
   | cons x Q=>exact⟨x,Q,rfl⟩
  have hQ1:Q.length=m+1:=by simpa using hQ
  have hex:(ex 16 1 P).Perm (lo 17 P):=by
   have h:=qY P 16 1
   have e:lo 1 P=[]:=by show List.replicate (P.getD 0 0) 0++[]=[];rw[ho.zero];rfl
   rw[e,List.append_nil] at h
   exact h
  have hlo1:lo 1 P=[]:=by show List.replicate (P.getD 0 0) 0++[]=[];rw[ho.zero];rfl
  have hsumx:Dy (ex 16 1 P)=Dy (lo 17 P):=by
   have:∀ {a b:List Nat},a.Perm b→Dy a=Dy b:=fun h=>by
    induction h with
    | nil=>rfl
    | cons x _ ih=>show x+Dy _=x+Dy _;rw[ih]
    | swap x y l=>show y+(x+Dy l)=x+(y+Dy l);omega
    | trans _ _ h1 h2=>exact h1.trans h2
   exact this hex
  have hs:=ho.sum
  rw[show (x::Q).length=Q.length+1 from rfl,QE] at hs
  have hp:=UK (k+2+(m+1)*20) (m+1) ih (by omega) (by omega) (x:=x) (f:=f) hQ1 (fun y hy=>ho.small y (List.mem_cons_of_mem _ hy)) hf 16 1 x 1 P (by omega) (by omega) ho.len ho.zero (by rw[hlo1,hex.length_eq];simpa using ho.few) (by rw[hlo1,hsumx,hs,hQ1];rfl) (ho.small x (by simp)) (by rw[Nat.one_mul,hex.length_eq];exact Nat.le_trans (Nat.pow_le_pow_right (by omega) ho.few) (by decide))
  rw[hlo1,Nat.one_mul] at hp
  have hW:W (x::Q).length (lo 17 P) (am (x::Q))=D (m+1) (ex 16 1 P) x [] (am Q):=by
   rw[show (x::Q).length=m+1+1 from by simp[hQ1],←WT hex,Ng (m+1) _ _ (by rw[hsumx,hs,show m+1=Q.length from hQ1.symm,QE]),rD];rfl
  rw[hW]
  have hpr:=hp
  unfold Yo Pk at hpr
  rw[show k+(m+2)*20=k+2+(m+1)*20+16+1+1 from by omega,p60]
  show bb (an (Nat.beq (len (Ca P)) 17) (Au Ah (Ca P))) (mG (A7 (k+2+(m+1)*20+16+1)) L (Ca P) ⟨(x::Q).length,f,Ca (x::Q)⟩) none=_
  rw[Hw,ho.len,Cs,show an (Nat.beq 17 17) true=true from rfl,Ak]
  have g0:AL (Ca (x::Q)) (0*1)=some (.int .i64 (.ofNat x)):=rfl
  have hb0:an (Nat.blt 0 (x::Q).length) true=true:=by rw[CF,blt_eq,decide_eq_true (by simp)];rfl
  have hn1:Bd (Int.ofNat (x::Q).length) 1=false:=by
   rw[Dn]
   refine decide_eq_false fun h=>?_
   have:(((x::Q).length:Nat):Int)=1:=h
   omega
  unfold fnV at hpr
  have hpr':A7 (k+2+(m+1)*20+16+1) 10850 [I 1,I (.ofNat x),I 1,.pointer (some ⟨1,0,none⟩),.pointer (some ⟨2,0,none⟩),.pointer (some ⟨3,0,none⟩),.agg ⟨Ca P⟩,.agg ⟨[Sl.v 1 ⟨(x::Q).length,f,Ca (x::Q)⟩]⟩,.agg ⟨[.func (.func 85) ⟨[]⟩ ⟨[.pointer (some ⟨1,0,none⟩),.pointer (some ⟨2,0,none⟩),.pointer (some ⟨3,0,none⟩)]⟩]⟩]=_:=hpr
  unfold mG
  simp only[Cs,Ak,hn1,AA,hb0,g0,Ac,BP,hpr',FW,Dj,EG,RL,Dc,Yp,qZ,rA,rC]
end Go.BkQ
set_option maxRecDepth 100000
set_option maxHeartbeats 4000000
namespace Go.BkQ
open Go Go.Sp Go.BkUM Go.BkW
noncomputable section
def Ain:List (Nat×Nat×Nat×List Nat):=[(1,1,0,[1]),(1,1,1,[1]),(1,1,2,[1]),(1,1,3,[1]),(1,1,4,[1]),(1,1,5,[1]),(1,1,6,[1]),(1,1,7,[1]),(1,2,0,[1,1]),(1,2,2,[2]),(1,2,4,[2]),(1,2,5,[1,1]),(1,3,0,[1,1,1]),(1,3,2,[2,1]),(1,3,4,[2,1]),(1,3,5,[1,1,1]),(1,4,0,[1,1,1,1]),(1,4,2,[2,2]),(1,4,4,[2,2]),(1,4,5,[1,1,1,1]),(2,1,0,[1,1]),(2,1,2,[2]),(2,1,4,[1,1]),(2,1,5,[2]),(2,2,0,[1,1,1,1]),(2,2,1,[4]),(2,2,2,[2,2]),(2,2,3,[4]),(2,2,4,[2,2]),(2,2,5,[2,2]),(2,2,6,[1,2,1]),(2,2,7,[2,1,1]),(2,3,0,[1,1,1,1,1,1]),(2,3,2,[2,2,2]),(2,3,4,[2,1,2,1]),(2,3,5,[2,2,2]),(2,4,0,[1,1,1,1,1,1,1,1]),(2,4,2,[2,2,2,2]),(2,4,4,[2,2,2,2]),(2,4,5,[2,2,2,2]),(3,1,0,[1,1,1]),(3,1,2,[2,1]),(3,1,4,[1,1,1]),(3,1,5,[2,1]),(3,2,0,[1,1,1,1,1,1]),(3,2,2,[2,2,2]),(3,2,4,[2,2,2]),(3,2,5,[2,2,1,1]),(3,3,0,[1,1,1,1,1,1,1,1,1]),(3,3,1,[4,4,1]),(3,3,2,[2,2,2,2,1]),(3,3,3,[4,4,1]),(3,3,4,[2,1,2,1,2,1]),(3,3,5,[2,2,2,1,1,1]),(3,3,6,[1,2,2,1,2,1]),(3,3,7,[2,2,1,2,1,1]),(3,4,0,[1,1,1,1,1,1,1,1,1,1,1,1]),(3,4,2,[2,2,2,2,2,2]),(3,4,4,[2,2,2,2,2,2]),(3,4,5,[2,2,2,2,1,1,1,1]),(4,1,0,[1,1,1,1]),(4,1,2,[2,2]),(4,1,4,[1,1,1,1]),(4,1,5,[2,2]),(4,2,0,[1,1,1,1,1,1,1,1]),(4,2,2,[2,2,2,2]),(4,2,4,[2,2,2,2]),(4,2,5,[2,2,2,2]),(4,3,0,[1,1,1,1,1,1,1,1,1,1,1,1]),(4,3,2,[2,2,2,2,2,2]),(4,3,4,[2,1,2,1,2,1,2,1]),(4,3,5,[2,2,2,2,2,2]),(4,4,0,[1,1,1,1,1,1,1,1,1,1,1,1,1,1,1,1]),(4,4,1,[4,4,4,4]),(4,4,2,[2,2,2,2,2,2,2,2]),(4,4,3,[4,4,4,4]),(4,4,4,[2,2,2,2,2,2,2,2]),(4,4,5,[2,2,2,2,2,2,2,2]),(4,4,6,[1,2,2,2,1,2,2,1,2,1]),(4,4,7,[2,2,2,1,2,2,1,2,1,1])]
def Aio (r c t:Nat) (l:List (Nat×Nat×Nat×List Nat)):List Nat:=List.rec (motive:=fun _=>List Nat) [] (fun p _ ih=>bb (an (Nat.beq p.1 r) (an (Nat.beq p.2.1 c) (Nat.beq p.2.2.1 t))) p.2.2.2 ih) l
def Ce (r c t:Nat):List Nat:=Aio r c t Ain
def cnt (s:Nat) (l:List Nat):Nat:=List.rec (motive:=fun _=>Nat) 0 (fun x _ ih=>bb (Nat.beq x s) (Nat.succ ih) ih) l
def SH (l:List Nat):List Nat:=AP (fun s=>cnt s l) [0,1,2,3,4,5,6,7,8,9,10,11,12,13,14,15,16]
def AbE (l:List Nat):Nat:=List.rec (motive:=fun _=>Nat) 0 (fun x _ ih=>x+ih) l
def AbF (r c t:Nat):Bool:=(fun l=>an (Nat.ble (len l) 16) (an (Nat.beq (AbE l) (r*c)) (Au (fun x=>an (Nat.ble 1 x) (Nat.ble x 16)) l))) (Ce r c t)
end
theorem kY:Au (fun p:Nat×Nat=>Au (fun t=>AbF p.1 p.2 t) (FN (Nat.beq p.1 p.2))) Ja=true:=by kernel_rfl
theorem ring_runs (n:Nat) (K:Int) (s:Sl):AP (fun p:Nat×Nat=>AP (fun t=>A7 (n+3) 58 [.agg ⟨[I (.ofNat p.1),I (.ofNat p.2),I K,Sl.v 1 s]⟩,I (.ofNat t)]) (FN (Nat.beq p.1 p.2))) Ja=AP (fun p:Nat×Nat=>AP (fun t=>some (Sl.v 1 ⟨len (Ce p.1 p.2 t),0,Ca (Ce p.1 p.2 t)⟩)) (FN (Nat.beq p.1 p.2))) Ja:=by kernel_rfl
noncomputable def QG (f k:Nat) (F:Nat→Nat→List Nat→Nat→Nat→Option Value):List (List (Option Value)):=AP (fun p:Nat×Nat×List Nat=>(List.rec (motive:=fun _=>Nat→List (Option Value)) (fun _=>[]) (fun t _ ih j=>F p.1 p.2.1 p.2.2 j t::ih (Nat.succ j)) p.2.2:Nat→List (Option Value)) 0) BO
theorem ZH (n f k:Nat):QG f k (fun r c us j _=>A7 (n+1) 61 [iO r c k f us,I (.ofNat j)])=QG f k (fun r c _ _ t=>some (.agg ⟨Ca (SH (Ce r c t))⟩)):=by kernel_rfl
theorem ZI (n f k:Nat) (hk:k=1∨k=2∨k=3∨k=4):QG f k (fun r c us j _=>A7 (n+2) 56 [iO r c k f us,I (.ofNat j)])=QG f k (fun r c _ _ t=>some (I (.ofNat (Nat.pow k (len (Ce r c t)))))):=by
 rcases hk with rfl | rfl | rfl | rfl <;> kernel_rfl
theorem UL {f k:Nat} {F G:Nat→Nat→List Nat→Nat→Nat→Option Value} (h:QG f k F=QG f k G) {r c j t:Nat} {us:List Nat} (hg:(r,c,us)∈BO) (hj:us[j]?=some t):F r c us j t=G r c us j t:=by
 have h1:=D5 h (r,c,us) hg
 have key:∀ (l:List Nat) (i j:Nat),(List.rec (motive:=fun _=>Nat→List (Option Value)) (fun _=>[]) (fun t _ ih j=>F r c us j t::ih (Nat.succ j)) l:Nat→List (Option Value)) i=(List.rec (motive:=fun _=>Nat→List (Option Value)) (fun _=>[]) (fun t _ ih j=>G r c us j t::ih (Nat.succ j)) l:Nat→List (Option Value)) i→l[j]?=some t→F r c us (i+j) t=G r c us (i+j) t:=by
  intro l
  induction l with
  | nil=>intro i j _ hj;cases hj
  | cons x l ih =>
   intro i j h hj
   injection h with h2 h3
   cases j with
   | zero=>injection hj with hj;subst hj;exact h2
   | succ j =>
    have:=ih (i+1) j h3 (by simpa using hj)
    rwa [show i+1+j=i+(j+1) by omega] at this
 have:=key us 0 j h1 hj
 rwa [Nat.zero_add] at this
end Go.BkQ
set_option maxRecDepth 100000
set_option maxHeartbeats 4000000
namespace Go.BkW
theorem ZJ {a b:List Nat} (h:a.Perm b):Dy a=Dy b:=by
 induction h with
 | nil=>rfl
 | cons x _ ih=>show x+Dy _=x+Dy _;rw[ih]
 | swap x y l=>show y+(x+Dy l)=x+(y+Dy l);omega
 | trans _ _ h1 h2=>exact h1.trans h2
theorem UM (P : List Nat) (x : Nat) : ∀ s, (lo s P).count x = if x < s then P.getD x 0 else 0
 | 0=>by simp[lo]
 | s + 1 => by
  show (List.replicate (P.getD s 0) s++lo s P).count x=_
  rw[List.count_append,UM P x s,List.count_replicate]
  by_cases h:x=s
  ·subst h;simp
  ·by_cases h2 : x < s
   ·rw[if_pos h2,if_pos (show x < s+1 by omega)];simp[Ne.symm h]
   ·rw[if_neg h2,if_neg (show ¬ x < s+1 by omega)];simp[Ne.symm h]
theorem AbG (N k:Nat) (h:k≤N):C (N+1) (k+1)*(k+1)=C N k*(N+1):=by
 show (C N k+C N (k+1))*(k+1)=C N k*(N+1)
 rw[Nat.add_mul,Pe N k h,←Nat.mul_add]
 congr 1;omega
theorem kZ {f : Nat → Nat} {k : Nat} : ∀ {n : Nat}, k < n → (∀ j, j < n → j ≠ k → f j = 0) → sm f n = f k
 | 0,h,_=>by omega
 | n + 1, h, h0 => by
  show sm f n+f n=f k
  by_cases e:k=n
  ·subst e
   rw[CY (g:=fun _=>0) fun j hj=>h0 j (by omega) (by omega),JP,Nat.zero_add]
  ·rw[h0 n (by omega) (Ne.symm e),kZ (by omega) fun j h1 h2=>h0 j (by omega) h2,Nat.add_zero]
def Mn : List Nat → Nat → Nat
 | [],_=>1
 | x::Q,n=>C n x*Mn Q (n - x)
end Go.BkW
namespace Go.BkQ
open Go Go.Sp Go.BkUM Go.BkW
theorem WY : ∀ (Q : List Nat) (n : Nat), sm (am Q) Q.length = n → W Q.length (List.replicate n 1) (am Q) = Mn Q n
 | [], n, h => by
  obtain rfl:n=0:=h.symm
  rfl
 | x :: Q, n, h => by
  rw[show (x::Q).length=Q.length+1 from rfl,QE] at h
  have hx:x≤n:=by omega
  rw[show (x::Q).length=Q.length+1 from rfl,Ng Q.length _ _ (by rw[Pj,QE];omega),rD]
  have e:=Yl Q.length 1 [] (am Q) n (am (x::Q) 0) []
  rw[List.append_nil] at e
  rw[e,kZ (k:=x) (by omega) fun j hj hne=>?_]
  ·show (if x * 1 ≤ x then C n x * D Q.length [] (x - x * 1) (List.replicate (n - x) 1 ++ []) (am Q) else 0) = C n x * Mn Q (n - x)
   rw[if_pos (by omega),Nat.mul_one,Nat.sub_self,List.append_nil,←WY Q (n - x) (by omega)];rfl
  ·show (if j * 1 ≤ x then C n j * (if x - j * 1 = 0 then _ else 0) else 0) = 0
   rw[Nat.mul_one]
   by_cases h1:j≤x
   ·rw[if_pos h1,if_neg (by omega),Nat.mul_zero]
   ·rw[if_neg h1]
theorem lH (s:Nat) (l:List Nat):cnt s l=l.count s:=by
 induction l with
 | nil=>rfl
 | cons x l ih =>
  show bb (Nat.beq x s) (Nat.succ (cnt s l)) (cnt s l)=_
  rw[ih,List.count_cons]
  by_cases h:x=s
  ·subst h;rw[show Nat.beq x x=true from by simp];simp
  ·rw[show Nat.beq x s=false from by cases e:Nat.beq x s with | false=>rfl | true=>exact absurd (Nat.eq_of_beq_eq_true e) h];simp[h]
theorem nK (l:List Nat):AbE l=Dy l:=by
 induction l with
 | nil=>rfl
 | cons x l ih=>show x+AbE l=x+Dy l;rw[ih]
theorem nL (l:List Nat):SH l=(List.range 17).map fun s=>cnt s l:=by
 unfold SH;rw[Cc];rfl
theorem UN (l:List Nat) {s:Nat} (h:s < 17):(SH l).getD s 0=l.count s:=by
 rw[nL,←lH];simp[List.getD_eq_getElem?_getD,h]
theorem ZK {l:List Nat} (h:∀ x∈l,x < 17):(lo 17 (SH l)).Perm l:=by
 rw[List.perm_iff_count]
 intro x
 rw[UM]
 by_cases hx:x < 17
 ·rw[if_pos hx,UN l hx]
 ·rw [if_neg hx]
  exact(List.count_eq_zero.2 fun hm=>hx (h x hm)).symm
structure AbH (r c t:Nat):Prop where
 few:(Ce r c t).length≤16
 sum:Dy (Ce r c t)=r*c
 size:∀ x∈Ce r c t,1≤x∧x≤16
theorem Ka {r c t:Nat} {us:List Nat} (hg:(r,c,us)∈BO) (ht:t∈us):AbH r c t:=by
 have hp:=FL hg
 have h:=kY
 rw[Bh,List.all_eq_true] at h
 have h:=h (r,c) (Gs ⟨hp.r1,hp.r4⟩ ⟨hp.c1,hp.c4⟩)
 rw[Bh,List.all_eq_true] at h
 obtain⟨h1,h2⟩:=Av (h t (UH hg ht))
 obtain⟨h2,h3⟩:=Av h2
 rw[Bh,List.all_eq_true] at h3
 have h2:=Nat.eq_of_beq_eq_true h2
 have h1:=Nat.le_of_ble_eq_true h1
 rw[AV] at h1
 rw[nK] at h2
 refine⟨h1,h2,fun x hx=>?_⟩
 obtain⟨a,b⟩:=Av (h3 x hx)
 exact⟨Nat.le_of_ble_eq_true a,Nat.le_of_ble_eq_true b⟩
theorem KS (n:Nat) {K:Int} {s:Sl} {r c t:Nat} {us:List Nat} (hg:(r,c,us)∈BO) (ht:t∈us):A7 (n+3) 58 [.agg ⟨[I (.ofNat r),I (.ofNat c),I K,Sl.v 1 s]⟩,I (.ofNat t)]=some (Sl.v 1 ⟨(Ce r c t).length,0,Ca (Ce r c t)⟩):=by
 have hp:=FL hg
 have h1:=D5 (f:=fun p:Nat×Nat=>AP (fun t=>A7 (n+3) 58 [.agg ⟨[I (.ofNat p.1),I (.ofNat p.2),I K,Sl.v 1 s]⟩,I (.ofNat t)]) (FN (Nat.beq p.1 p.2))) (g:=fun p:Nat×Nat=>AP (fun t=>some (Sl.v 1 ⟨len (Ce p.1 p.2 t),0,Ca (Ce p.1 p.2 t)⟩)) (FN (Nat.beq p.1 p.2))) (ring_runs n K s) (r,c) (Gs ⟨hp.r1,hp.r4⟩ ⟨hp.c1,hp.c4⟩)
 have h2:=D5 (f:=fun t=>A7 (n+3) 58 [.agg ⟨[I (.ofNat r),I (.ofNat c),I K,Sl.v 1 s]⟩,I (.ofNat t)]) (g:=fun t=>some (Sl.v 1 ⟨len (Ce r c t),0,Ca (Ce r c t)⟩)) h1 t (UH hg ht)
 rw[←AV]
 exact h2
theorem p57 (k:Nat) (args:List Value):A7 (k+1) 57 args=m57 (A7 k) L args:=by kernel_rfl
theorem UO (pu : Af) (M : Nat) {K e : Nat} (hK : K ≤ 4) (he : e ≤ 16) : ∀ (d w i : Nat), i + d = e → d < w → Qr pu M w (.ofNat K) (.ofNat e) (.ofNat (K ^ i)) (.ofNat i) = some (I (.ofNat (K ^ e)))
 | _,0,_,_,h=>by omega
 | 0, w + 1, i, hd, _ => by
  obtain rfl:i=e:=by omega
  show OP pu M (Qr pu M w) (.ofNat K) (.ofNat i) (.ofNat (K ^ i)) (.ofNat i)=_
  unfold OP Ui
  simp only[Bp,Nat.lt_irrefl,decide_false,AA]
 | d + 1, w + 1, i, hd, hw => by
  have hb:K ^ i*K≤4 ^ 16:=by
   rw[←Nat.pow_succ]
   exact Nat.le_trans (Nat.pow_le_pow_left hK _) (Nat.pow_le_pow_right (by omega) (by omega))
  show OP pu M (Qr pu M w) (.ofNat K) (.ofNat e) (.ofNat (K ^ i)) (.ofNat i)=_
  unfold OP
  simp only[Bp,show i < e by omega,decide_true,Ak,mulN (show K ^ i*K < 9223372036854775807 by omega),DC i (by omega)]
  exact UO pu M hK he d w (i+1) (by omega) (by omega)
theorem UQ (n:Nat) {K e:Nat} (hK:K≤4) (he:e≤16):A7 (n+1) 57 [I (.ofNat K),I (.ofNat e)]=some (I (.ofNat (K ^ e))):=by
 rw[p57]
 exact UO (A7 n) L hK he e L 0 (by omega) (by show _ < 1000000;omega)
theorem p63 (k:Nat) (args:List Value):A7 (k+1) 63 args=m63 (A7 k) L args:=by kernel_rfl
theorem MK (pu : Af) (M : Nat) {m n : Nat} (hn : n ≤ m) (hm : m ≤ 16) : ∀ (d w j : Nat), j + d = n → d < w → Qs pu M w (.ofNat m) (.ofNat n) (.ofNat (C (m - n + j) j)) (.ofNat (j + 1)) = some (I (.ofNat (C m n)))
 | _,0,_,_,h=>by omega
 | 0, w + 1, j, hd, _ => by
  obtain rfl:j=n:=by omega
  show OQ pu M (Qs pu M w) (.ofNat m) (.ofNat j) (.ofNat (C (m - j+j) j)) (.ofNat (j+1))=_
  unfold OQ Ul
  simp only[Bp,show j < j+1 by omega,decide_true,show nt true=false from rfl,AA]
  rw[Nat.sub_add_cancel hn]
 | d + 1, w + 1, j, hd, hw => by
  have hC:C (m - n+j) j≤65536:=Nat.le_trans (UJ _ _) (Nat.pow_le_pow_right (n:=2) (by omega) (show m - n+j≤16 by omega))
  have hC2:C (m - n+j+1) (j+1)≤65536:=Nat.le_trans (UJ _ _) (Nat.pow_le_pow_right (n:=2) (by omega) (show m - n+j+1≤16 by omega))
  have hmb:C (m - n+j) j*(m - n+(j+1))≤65536*17:=Nat.mul_le_mul hC (by omega)
  have hdiv:Aj .i64 (Int.tdiv (.ofNat (C (m - n+j) j*(m - n+(j+1)))) (.ofNat (j+1))) = .ofNat (C (m - n+(j+1)) (j+1)):=by
   have hs:=AbG (m - n+j) j (by omega)
   rw[show m - n+(j+1)=m - n+j+1 by omega,←hs,show Int.tdiv (.ofNat (C (m - n+j+1) (j+1)*(j+1))) (.ofNat (j+1))=((C (m - n+j+1) (j+1)*(j+1) / (j+1):Nat):Int) from rfl,Nat.mul_div_cancel _ (by omega)]
   rw[Oe _ (by omega) (by omega)];rfl
  show OQ pu M (Qs pu M w) (.ofNat m) (.ofNat n) (.ofNat (C (m - n+j) j)) (.ofNat (j+1))=_
  unfold OQ
  simp only[Bp,show ¬ n < j+1 by omega,decide_false,show nt false=true from rfl,Ak,Dn,kW hn (by omega),addN (show m - n+(j+1) < 9223372036854775807 by omega),mulN (show C (m - n+j) j*(m - n+(j+1)) < 9223372036854775807 by omega),hdiv,DC (j+1) (by omega)]
  rw[show decide (Int.ofNat (j+1)=0)=false from decide_eq_false (by intro h;cases h),show nt false=true from rfl,Ak]
  exact MK pu M hn hm d w (j+1) (by omega) (by omega)
theorem ZL (k:Nat) {m n:Nat} (hn:n≤m) (hm:m≤16):A7 (k+1) 63 [I (.ofNat m),I (.ofNat n)]=some (I (.ofNat (C m n))):=by
 rw[p63]
 have h:=MK (A7 k) L hn hm n L 0 (by omega) (by show _ < 1000000;omega)
 rw[IB] at h
 exact h
end Go.BkQ
set_option maxRecDepth 100000
set_option maxHeartbeats 4000000
namespace Go.BkQ
open Go Go.Sp Go.BkUM Go.BkW
theorem SI (off:Nat) (cs:List Value):Pv (Cv off cs)=some ⟨off,cs⟩:=rfl
theorem NA {α:Type} (a:α):isS (some a)=true:=rfl
theorem Pm:Pv (.pointer none)=none:=rfl
theorem LZ:U0 (.pointer none)=true:=rfl
theorem Nz {α:Type}:isS (none:Option α)=false:=rfl
theorem p23 (k:Nat) (args:List Value):A7 (k+1) 23 args=m23 (A7 k) L args:=by kernel_rfl
theorem p24 (k:Nat) (args:List Value):A7 (k+1) 24 args=m24 (A7 k) L args:=by kernel_rfl
theorem p25 (k:Nat) (args:List Value):A7 (k+1) 25 args=m25 (A7 k) L args:=by kernel_rfl
theorem p26 (k:Nat) (args:List Value):A7 (k+1) 26 args=m26 (A7 k) L args:=by kernel_rfl
theorem lI:nt (Bd (0:Int) 0)=false:=rfl
theorem Kb (us:List Nat):len us=us.length:=AV us
theorem L6 (n f:Nat) {r c k:Nat} {us:List Nat} (hk:k=1∨k=2∨k=3∨k=4) (hg:(r,c,us)∈BO):A7 (n+6) 55 [.agg ⟨[I (.ofNat r),I (.ofNat c),I (.ofNat k),Sl.v 1 (sl f (us.map Int.ofNat))]⟩]=some (.tuple ⟨[Cv 0 (Gr r c k f us),I 0]⟩):=by
 have h:=mQ n f hk hg
 rw[←kV] at h
 exact h
theorem UR (n f:Nat) {r c k j t:Nat} {us:List Nat} (hk:k=1∨k=2∨k=3∨k=4) (hg:(r,c,us)∈BO) (hj:us[j]?=some t):A7 (n+2) 56 [Cv 0 (Gr r c k f us),I (.ofNat j)]=some (I (.ofNat (k ^ (Ce r c t).length))):=by
 have h:=UL (ZI n f k hk) hg hj
 rw[AV] at h
 exact h
theorem ZM (r c k f:Nat) (us:List Nat):AL (Gr r c k f us) (0+0+3)=some (Sl.v 1 ⟨len us,f,Ca us⟩):=rfl
theorem SK (n f:Nat) {R C K z:Int} {ts:List Int} (hl:ts.length≤100):∃ a e,A7 (n+8) 23 [.agg ⟨[I R,I C,I K,Sl.v 1 (sl f ts)]⟩,I z]=some (.tuple ⟨[I a,I e]⟩)∧A7 (n+8) 24 [.agg ⟨[I R,I C,I K,Sl.v 1 (sl f ts)]⟩,I z]=some (.tuple ⟨[I a,I e]⟩):=by
 rw[p23,p24]
 have hc:=O9 (n+1) f (R:=R) (C:=C) (K:=K) hl
 unfold S at hc
 by_cases h:Fj R C K ts=0
 ·rw [h] at hc
  obtain⟨r,c,k,us,rfl,rfl,rfl,rfl,hg,hk⟩:=LW h
  have hp:=FL hg
  have h1:=L6 (n+1) f hk hg
  have hi:=iQ (n+6) f (ts:=us) (by have:=hp.len8;omega) z
  have hh:=Abz (n+6) f (ts:=us.map Int.ofNat) z (by simp;have:=hp.len8;omega)
  unfold S at hh
  by_cases hz:z∈us.map Int.ofNat
  ·obtain ⟨t, ht, rfl⟩ := List.mem_map.1 hz
   obtain⟨j,j1,j2⟩:=Uz (i:=0) ht
   rw[Nat.zero_add] at j2
   rw[j2] at hi
   have h2:=UR (n+5) f hk hg j1
   have h3:=KS (n+4) (K:=.ofNat k) (s:=sl f (us.map Int.ofNat)) hg ht
   have h4:=UQ (n+6) (K:=k) (e:=(Ce r c t).length) (by omega) (Ka hg ht).few
   refine⟨.ofNat (k ^ (Ce r c t).length),0,?_,?_⟩
   ·show TZ (A7 (n + 7)) L (.ofNat r) (.ofNat c) (.ofNat k) (sl f (us.map Int.ofNat)) (.ofNat t) = _
    unfold TZ
    simp only[h1,Ac,FW,Dj,EG,SI,NA,Ak,BP,lI,AA,ZM,Dc,hi,show AY (Int.ofNat j) 0=false from rfl,h2]
   ·show T9 (A7 (n + 7)) L (.ofNat r) (.ofNat c) (.ofNat k) (sl f (us.map Int.ofNat)) (.ofNat t) = _
    unfold T9 Ou MF
    simp only[hc,Ac,BP,show Bd (0:Int) 0=true from rfl,Ak,hh,BU,decide_eq_true hz,show nt true=false from rfl,AA,h3,Dc,h4]
  ·have hi' : SB z us 0 = -1 := UA fun t ht e => hz (List.mem_map.2 ⟨t, ht, e.symm⟩)
   rw[hi'] at hi
   refine⟨0,2,?_,?_⟩
   ·show TZ (A7 (n + 7)) L (.ofNat r) (.ofNat c) (.ofNat k) (sl f (us.map Int.ofNat)) z = _
    unfold TZ
    simp only[h1,Ac,FW,Dj,EG,SI,NA,Ak,BP,lI,AA,ZM,Dc,hi,show AY (-1:Int) 0=true from rfl]
   ·show T9 (A7 (n + 7)) L (.ofNat r) (.ofNat c) (.ofNat k) (sl f (us.map Int.ofNat)) z = _
    unfold T9 Ou MF
    simp only[hc,Ac,BP,show Bd (0:Int) 0=true from rfl,Ak,hh,BU,decide_eq_false hz,show nt false=true from rfl,show nt (Bd (2:Int) 0)=true from rfl]
 ·have h1 := Jw (n + 1) f (R := R) (C := C) (K := K) hl h
  unfold S at h1
  refine⟨0,Fj R C K ts,?_,?_⟩
  ·show TZ (A7 (n + 7)) L R C K (sl f ts) z = _
   unfold TZ
   simp only[h1,Ac,FW,Dj,EG,Pm,Nz,AA,LZ,Ak,BP,Dn,decide_eq_false h,show nt false=true from rfl]
  ·show T9 (A7 (n + 7)) L R C K (sl f ts) z = _
   unfold T9 Ou MF
   simp only[hc,Ac,BP,Dn,decide_eq_false h,AA,show nt false=true from rfl,Ak]
def DD (F : Nat → Nat) : List Nat → Nat
 | []=>0
 | t::r=>F t+DD F r
theorem Yq {F : Nat → Nat} {b : Nat} : ∀ {l : List Nat}, (∀ t ∈ l, F t ≤ b) → DD F l ≤ l.length * b
 | [],_=>by simp[DD]
 | t :: r, h => by
  have:=Yq (F:=F) (b:=b) (l:=r) fun x hx=>h x (by simp[hx])
  have:=h t (by simp)
  show F t+DD F r≤(r.length+1)*b
  rw[Nat.succ_mul];omega
theorem UT (F : Nat → Nat) : ∀ (a b : List Nat), DD F (a ++ b) = DD F a + DD F b
 | [],b=>by show DD F b=0+DD F b;omega
 | t::r,b=>by show F t+DD F (r++b)=F t+DD F r+DD F b;rw[UT F r b];omega
theorem EN (F:Nat→Nat) {l:List Nat} {i:Nat} (h:i < l.length):DD F (l.take (i+1))=DD F (l.take i)+F l[i]:=by
 rw[List.take_add_one,List.getElem?_eq_getElem h,UT]
 rfl
theorem divN {a b:Nat} (ha:a < 9223372036854775807):Aj .i64 (Int.tdiv (.ofNat a) (.ofNat b)) = .ofNat (a / b):=by
 have h:a / b≤a:=Nat.div_le_self a b
 rw[show Int.tdiv (.ofNat a) (.ofNat b)=((a / b:Nat):Int) from rfl]
 generalize a / b=q at *
 rw[Oe _ (by omega) (by omega)];rfl
theorem ne0 {n:Nat} (h:1≤n):nt (Bd (Int.ofNat n) 0)=true:=by
 rw[Dn,decide_eq_false];· rfl
 intro e;have:(n:Int)=0:=e;omega
theorem Hy {r c:Nat} {us:List Nat} (hg:(r,c,us)∈BO):1≤us.length∧us.length≤8:=by
 refine⟨?_,(FL hg).len8⟩
 have h:Au (fun p:Nat×Nat×List Nat=>Nat.ble 1 (len p.2.2)) BO=true:=by kernel_rfl
 rw[Bh,List.all_eq_true] at h
 have:=Nat.le_of_ble_eq_true (h _ hg)
 rwa [AV] at this
noncomputable def Gt (r c k:Nat):Nat→Nat:=fun t=>k ^ (Ce r c t).length
theorem K5 {r c k:Nat} {us:List Nat} (hk:k=1∨k=2∨k=3∨k=4) (hg:(r,c,us)∈BO) {l:List Nat} (hs:∀ t∈l,t∈us):∀ t∈l,Gt r c k t≤4 ^ 16:=fun t ht=>by
 unfold Gt
 exact Nat.le_trans (Nat.pow_le_pow_left (by omega) _) (Nat.pow_le_pow_right (by omega) (Ka hg (hs t ht)).few)
theorem Fb {F:Nat→Nat} {us:List Nat} (hu:us.length≤8) (h:∀ t∈us,F t≤4 ^ 16) (i:Nat):DD F (us.take i)≤8*4 ^ 16:=by
 refine Nat.le_trans (Yq (b:=4 ^ 16) fun t ht=>h t (List.mem_of_mem_take ht)) (Nat.mul_le_mul_right _ ?_)
 have:=List.length_take_le i us
 have:(us.take i).length≤us.length:=by simp;omega
 omega
theorem Pn (n M f : Nat) {r c k : Nat} {us : List Nat} (hk : k = 1 ∨ k = 2 ∨ k = 3 ∨ k = 4) (hg : (r, c, us) ∈ BO) : ∀ (d w i : Nat), i + d = us.length → d < w →
 PN (A7 (n+2)) M w 0 (Gr r c k f us) (.ofNat (DD (Gt r c k) (us.take i))) (.ofNat us.length) (.ofNat i)=some (.tuple ⟨[I (.ofNat (DD (Gt r c k) us / us.length)),I 0]⟩)
 | _,0,_,_,h=>by omega
 | 0, w + 1, i, hd, _ => by
  obtain rfl:i=us.length:=by omega
  obtain⟨u1,u8⟩:=Hy hg
  have hb:=Fb u8 (K5 hk hg fun t h=>h) us.length
  rw[List.take_length] at hb ⊢
  show Ov (A7 (n+2)) M (PN (A7 (n+2)) M w) 0 (Gr r c k f us) (.ofNat (DD (Gt r c k) us)) (.ofNat us.length) (.ofNat us.length)=_
  unfold Ov Ua
  simp only[Bp,Nat.lt_irrefl,decide_false,AA,ZM,Ac,Dc,Kb,ne0 u1,Ak,divN (show DD (Gt r c k) us < 9223372036854775807 by omega)]
 | d + 1, w + 1, i, hd, hw => by
  have hi:i < us.length:=by omega
  obtain⟨u1,u8⟩:=Hy hg
  have hb:=Fb u8 (K5 hk hg fun t h=>h) (i+1)
  rw[EN _ hi] at hb
  have h2:=UR n f hk hg (List.getElem?_eq_getElem hi)
  have ih:=Pn n M f hk hg d w (i+1) (by omega) (by omega)
  rw[EN _ hi] at ih
  show Ov (A7 (n+2)) M (PN (A7 (n+2)) M w) 0 (Gr r c k f us) (.ofNat (DD (Gt r c k) (us.take i))) (.ofNat us.length) (.ofNat i)=_
  unfold Ov
  simp only[Bp,hi,decide_true,Ak,h2,Ac,BP,DC i (by omega)]
  rw[show k ^ (Ce r c us[i]).length=Gt r c k us[i] from rfl,addN (by omega)]
  exact ih
theorem nv1 {l:List Nat} {i:Nat} (h:i < l.length):AL (Ca l) (i*1)=some (.int .i64 (.ofNat l[i])):=SF h (by omega)
theorem ML (n M f : Nat) {r c k : Nat} {us : List Nat} (hk : k = 1 ∨ k = 2 ∨ k = 3 ∨ k = 4) (hg : (r, c, us) ∈ BO) : ∀ (d w i : Nat), i + d = us.length → d < w →
 PO (A7 (n+3)) M w (.ofNat (DD (Gt r c k) (us.take i))) (.ofNat i) (.ofNat r) (.ofNat c) (.ofNat k) ⟨us.length,f,Ca us⟩=some (.tuple ⟨[I (.ofNat (DD (Gt r c k) us / us.length)),I 0]⟩)
 | _,0,_,_,h=>by omega
 | 0, w + 1, i, hd, _ => by
  obtain rfl:i=us.length:=by omega
  obtain⟨u1,u8⟩:=Hy hg
  have hb:=Fb u8 (K5 hk hg fun t h=>h) us.length
  rw[List.take_length] at hb ⊢
  show Ow (A7 (n+3)) M (PO (A7 (n+3)) M w) (.ofNat (DD (Gt r c k) us)) (.ofNat us.length) (.ofNat r) (.ofNat c) (.ofNat k) ⟨us.length,f,Ca us⟩=_
  unfold Ow Ub
  simp only[Bp,Nat.lt_irrefl,decide_false,AA,ne0 u1,Ak,divN (show DD (Gt r c k) us < 9223372036854775807 by omega)]
 | d + 1, w + 1, i, hd, hw => by
  have hi:i < us.length:=by omega
  have hb1:an (Nat.blt i us.length) true=true:=by rw[CF,blt_eq,decide_eq_true hi];rfl
  obtain⟨u1,u8⟩:=Hy hg
  have hb:=Fb u8 (K5 hk hg fun t h=>h) (i+1)
  rw[EN _ hi] at hb
  have hm:=List.getElem_mem hi
  have h3:=KS n (K:=.ofNat k) (s:=⟨us.length,f,Ca us⟩) hg hm
  have h4:=UQ (n+2) (K:=k) (e:=(Ce r c us[i]).length) (by omega) (Ka hg hm).few
  have ih:=ML n M f hk hg d w (i+1) (by omega) (by omega)
  rw[EN _ hi] at ih
  show Ow (A7 (n+3)) M (PO (A7 (n+3)) M w) (.ofNat (DD (Gt r c k) (us.take i))) (.ofNat i) (.ofNat r) (.ofNat c) (.ofNat k) ⟨us.length,f,Ca us⟩=_
  unfold Ow
  simp only[Bp,hi,decide_true,Ak,Cx,Ac,hb1,nv1 hi,BP,h3,Dc,h4,DC i (by omega)]
  rw[show k ^ (Ce r c us[i]).length=Gt r c k us[i] from rfl,addN (by omega)]
  exact ih
theorem WZ (n f:Nat) {R C K:Int} {ts:List Int} (hl:ts.length≤100):∃ a e,A7 (n+8) 25 [.agg ⟨[I R,I C,I K,Sl.v 1 (sl f ts)]⟩]=some (.tuple ⟨[I a,I e]⟩)∧A7 (n+8) 26 [.agg ⟨[I R,I C,I K,Sl.v 1 (sl f ts)]⟩]=some (.tuple ⟨[I a,I e]⟩):=by
 rw[p25,p26]
 have hc:=O9 (n+1) f (R:=R) (C:=C) (K:=K) hl
 unfold S at hc
 by_cases h:Fj R C K ts=0
 ·rw [h] at hc
  obtain⟨r,c,k,us,rfl,rfl,rfl,rfl,hg,hk⟩:=LW h
  obtain⟨u1,u8⟩:=Hy hg
  have h1:=L6 (n+1) f hk hg
  have h2:=Pn (n+5) L f hk hg us.length L 0 (by omega) (by show _ < 1000000;omega)
  have h3:=ML (n+4) L f hk hg us.length L 0 (by omega) (by show _ < 1000000;omega)
  refine⟨.ofNat (DD (Gt r c k) us / us.length),0,?_,?_⟩
  ·show Yx (A7 (n + 7)) L (.ofNat r) (.ofNat c) (.ofNat k) (sl f (us.map Int.ofNat)) = _
   unfold Yx
   simp only[h1,Ac,FW,Dj,EG,SI,NA,Ak,BP,lI,AA,ZM,Dc,Kb]
   exact h2
  ·show Yy (A7 (n + 7)) L (.ofNat r) (.ofNat c) (.ofNat k) (sl f (us.map Int.ofNat)) = _
   unfold Yy
   simp only[hc,Ac,BP,lI,AA]
   rw[UD,Kb]
   exact h3
 ·have h1 := Jw (n + 1) f (R := R) (C := C) (K := K) hl h
  unfold S at h1
  refine⟨0,Fj R C K ts,?_,?_⟩
  ·show Yx (A7 (n + 7)) L R C K (sl f ts) = _
   unfold Yx
   simp only[h1,Ac,FW,Dj,EG,Pm,Nz,AA,LZ,Ak,BP,Dn,decide_eq_false h,show nt false=true from rfl]
  ·show Yy (A7 (n + 7)) L R C K (sl f ts) = _
   unfold Yy
   simp only[hc,Ac,BP,Dn,decide_eq_false h,show nt false=true from rfl,Ak]
end Go.BkQ
