/- Made from wip. -/
import Derived.Test.YtlgmapibifphaaaDoorMnOLaw8x
import Derived.Test.YtlgmapibifphaaaDoorSpItx
import Derived.Test.YtlgmapibifphaaaDoorSpObjx

set_option maxRecDepth 100000
namespace Go.MnOM
open Go.Sp Go.MnO Go.MdM

def nI (l:List Nat):List Int:=l.map Int.ofNat
theorem Gy (l:List Nat):(nI l).length=l.length:=by simp[nI]
theorem tX (l : List Nat) (i : Nat) (h : i < l.length) : (nI l)[i]'(by rw [Gy]; exact h) = Int.ofNat l[i] := by simp [nI]
theorem tY (a b:List Nat):nI (a++b)=nI a++nI b:=by simp[nI]
theorem tZ (l:List Nat) (i:Nat) (h:i < l.length):((nI l).map I)[i]?=some (I (Int.ofNat l[i])):=by rw[Aja _ i (by rw[Gy];exact h),tX l i h]
theorem clN (l:List Nat):Au Ah ((nI l).map I)=true:=by rw[Bh,kL]
def rv (r:List Nat):Value:=S 0 (nI r)
def LL (fl:Nat) (L:List (List Nat)):Sl:=⟨L.length,fl,L.map rv⟩
theorem vF (L:List (List Nat)):Au Ah (L.map rv)=true:=by
 rw[Bh,List.all_eq_true];intro x hx
 obtain⟨r,_,rfl⟩:=List.mem_map.1 hx;rfl
theorem WP (sz by' n k:Nat) (xs:List Value) (hr:EQ (n+k) by'=true) (hk:1≤k) (hx:xs.length=n*sz):GV sz by' n (2*n) k xs=true:=by
 unfold GV
 have e:(2*n) / 2=n:=by omega
 have e2:(2*n) % 2=0:=by omega
 rw[e,e2,hr]
 have b1:Nat.ble (n+k) n=false:=by rw[ble_eq];exact decide_eq_false (by omega)
 have b2:Nat.ble (0+n*sz) (len xs)=true:=by rw[ble_eq,AV,hx];simp
 have b3:Nat.beq (0+n*sz) (len xs)=true:=by rw[AV,hx,Nat.zero_add];exact Nat.beq_refl _
 rw[b1,b2,b3];rfl
theorem SA {n b:Nat} (hn:n≤1000) (hb:b≤100):EQ n b=true:=by
 unfold EQ;rw[ble_eq]
 have:=Nat.mul_le_mul (show 4*n+4096≤8096 by omega) hb
 simp;omega
theorem uA (r:List Nat):an (Nat.ble (0+r.length*1) (len ((nI r).map I))) (Au Ah (Aq (r.length*1) (Am 0 ((nI r).map I))))=true:=by
 have:r.length*1=((nI r).map I).length:=by rw[List.length_map,Gy,Nat.mul_one]
 rw[Nat.zero_add,this,Bz,List.drop_zero,Cg,List.take_length,clN,AV,ble_eq]
 simp
theorem takeN (r:List Nat):Aq (r.length*1) (Am 0 ((nI r).map I))=(nI r).map I:=by
 have:r.length*1=((nI r).map I).length:=by rw[List.length_map,Gy,Nat.mul_one]
 rw[this,Bz,List.drop_zero,Cg,List.take_length]
theorem Acz (L:List (List Nat)) (r:List Nat):Br (Am 0 (L.map rv)) [S 0 (nI r)]=(L++[r]).map rv:=by
 rw[BH,Bz,List.drop_zero,List.map_append];rfl
theorem uB (L:List (List Nat)):an (Nat.ble (0+L.length*1) (len (L.map rv))) (Au Ah (Aq (L.length*1) (Am 0 (L.map rv))))=true:=by
 have:L.length*1=(L.map rv).length:=by simp
 rw[Nat.zero_add,this,Bz,List.drop_zero,Cg,List.take_length,vF,AV,ble_eq]
 simp
theorem uC (L:List (List Nat)):Aq (L.length*1) (Am 0 (L.map rv))=L.map rv:=by
 have:L.length*1=(L.map rv).length:=by simp
 rw[this,Bz,List.drop_zero,Cg,List.take_length]
section
variable (n f1 f2 : Nat) (P X : List Nat) (s : Nat → Nat) (hP : P.Nodup) (hP10 : P.length ≤ 10) (hX : X.length = P.length) (hs : ∀ i (h : i < P.length), s P[i] = X[i]'(by omega)) (hXP : ∀ x ∈ X, x ∈ P)
include hP hP10 hX hs hXP
end
end Go.MnOM
set_option maxRecDepth 100000
namespace Go.MnOM
open Go.Sp Go.MnO Go.MdM

section
variable (pu:Af) (m:Nat) (A B:List (List Nat)) (hAB:A.length=B.length)
include hAB
end
end Go.MnOM
set_option maxRecDepth 100000
namespace Go.MnOM
open Go.Sp Go.MnO Go.MdM

section
variable (h w:List Int) (s0:Nat) (G:List (List Nat)) (hN:h.length≤10) (hw:w.length=h.length) (hs0:s0 < 2 ^ h.length)
abbrev PL:List Nat:=els h.length (tb s0)
def AcA:Prop:=G≠[]∧G.length=M h.length (fn h) (fn w) (tb s0)∧∀ L,BI h.length (fn h) (fn w) (tb s0) L→L=G∨L.length < M h.length (fn h) (fn w) (tb s0)∨(L.length=M h.length (fn h) (fn w) (tb s0)∧bef G L)
theorem Dv_mem {N:Nat} {H W:Nat→Int}:∀ (L:List (List Nat)) (S:Bn),BI N H W S L→∀ r∈L,r.length≤N+1
 | [],_,_,r,hr=>by cases hr
 | q :: L, S, hD, r, hr => by
  obtain⟨f,e,rfl,⟨h1,h2,_⟩,h4,h5⟩:=hD
  rcases List.mem_cons.1 hr with rfl | hr
  ·have:=YC e (List.range N) (PO e _ _ h4) (fun x hx=>by have:=(PN e _ _ h4 x hx).1;simpa using this)
   rw[List.length_range] at this
   simp;omega
  ·exact Dv_mem L _ h5 r hr
end
end Go.MnOM
set_option maxRecDepth 100000
namespace Go.MnOM
open Go.Sp Go.MnO Go.MdM

section
variable (h w:List Int) (s0:Nat) (G:List (List Nat)) (hN:h.length≤10) (hw:w.length=h.length) (hG:AcA h w s0 G) (hP0:PL h s0≠[])
include hN hw
include hG hP0
end

theorem V6:∀ (h w:List Int) (i:Nat) (hi:i < h.length) (hj:i < w.length),(bv h w).testBit i = !(h[i] == w[i])
 | [],_,i,hi,_=>by simp at hi
 | _::_,[],i,_,hj=>by simp at hj
 | x :: h, y :: w, 0, _, _ => by
  rw[Nat.testBit_zero]
  simp only[bv,List.getElem_cons_zero]
  by_cases e:x=y <;> simp[e] <;> omega
 | x :: h, y :: w, i + 1, hi, hj => by
  rw[Nat.testBit_succ]
  simp only[bv,List.getElem_cons_succ]
  rw[show ((if x=y then 0 else 1)+2*bv h w) / 2=bv h w by split <;> omega]
  exact V6 h w i (by simpa using hi) (by simpa using hj)
theorem PP (l : List Int) (x : Int) : ∀ (m : Nat), m ≤ l.length → (l.take m).count x = cn m (fun _ => true) (fn l) x
 | 0,_=>by simp[cn]
 | m + 1, h => by
  rw[MH (by omega),Oi,PP l x m (by omega),Gw (by omega)]
  simp
theorem Ov {K:Nat} {h w:List Int} (hw:w.length=h.length) (hk:MF K h) (hkw:MF K w) (he:vE K h w):Bp h.length (fn h) (fn w) (tb (bv h w)):=by
 intro x
 have split:∀ f:Nat→Int,cn h.length (fun _=>true) f x=cn h.length (tb (bv h w)) f x+cn h.length (fun i=>!(tb (bv h w) i)) f x:=fun f=>
  Jg f x (fun i _=>by cases tb (bv h w) i <;> rfl) (fun i _ g=>by cases hb:tb (bv h w) i <;> simp[hb] at g)
 have same:cn h.length (fun i=>!(tb (bv h w) i)) (fn h) x=cn h.length (fun i=>!(tb (bv h w) i)) (fn w) x:=by
  unfold cn
  apply List.countP_congr
  intro i hi
  have hi:i < h.length:=by simpa using hi
  have hj:i < w.length:=by omega
  have:=V6 h w i hi hj
  rw[Gw hi,Gw hj]
  show (!(bv h w).testBit i && _)=true↔(!(bv h w).testBit i && _)=true
  rw[this]
  by_cases e:h[i]=w[i] <;> simp[e]
 have all:cn h.length (fun _=>true) (fn h) x=cn h.length (fun _=>true) (fn w) x:=by
  rw[←PP h x h.length (Nat.le_refl _),←PP w x h.length (by omega),List.take_length,←hw,List.take_length]
  by_cases hx:0≤x∧x < K
  ·obtain⟨j,rfl⟩:∃ j:Nat,x=j:=⟨x.toNat,by omega⟩
   exact he j (by omega)
  ·rw[List.count_eq_zero.2 (fun hm=>hx (hk _ hm)),List.count_eq_zero.2 (fun hm=>hx (hkw _ hm))]
 have s1:=split (fn h)
 have s2:=split (fn w)
 omega
noncomputable def C8 (h w:List Int):List (List Nat):=gr h.length (fn h) (fn w) h.length (tb (bv h w))
structure Ok (k:Int) (h w:List Int):Prop where
 n10:h.length≤10
 n1:1≤h.length
 len:w.length=h.length
 kh:U0 h
 kw:U0 w
 k1:1≤k∧k≤5
 kk:MF k h∧MF k w
 ev:vE k.toNat h w
 dv:BI h.length (fn h) (fn w) (tb (bv h w)) (C8 h w)
 ln:(C8 h w).length=M h.length (fn h) (fn w) (tb (bv h w))
 fst:∀ L,BI h.length (fn h) (fn w) (tb (bv h w)) L→L=C8 h w∨L.length < M h.length (fn h) (fn w) (tb (bv h w))∨(L.length=M h.length (fn h) (fn w) (tb (bv h w))∧bef (C8 h w) L)
theorem Kh (N:Nat) (S:Bn):card N S≤N:=by unfold card;exact Nat.le_trans List.countP_le_length (by simp)
theorem iG {k:Int} {h w:List Int} (hc:chk k h w=0):Ok k h w:=by
 unfold chk at hc
 by_cases c1:1≤k∧k≤5
 ·rw[Hw c1] at hc
  by_cases c2:h.length=0
  ·rw[Hw c2] at hc;cases hc
  ·rw[Iy c2] at hc
   by_cases c3:10 < h.length
   ·rw[Hw c3] at hc;cases hc
   ·rw[Iy c3] at hc
    by_cases c4:w.length=h.length
    ·rw[Hw c4] at hc
     by_cases c5:MF k h∧MF k w
     ·rw[Hw c5] at hc
      by_cases c6:vE k.toNat h w
      ·have hK:((k.toNat:Nat):Int)=k:=by omega
       have k1:MF (k.toNat:Nat) h:=by rw[hK];exact c5.1
       have k2:MF (k.toNat:Nat) w:=by rw[hK];exact c5.2
       have he:=Ov c4 k1 k2 c6
       obtain⟨g1,g2,g3⟩:=YB h.length (tb (bv h w)) (Kh _ _) he
       exact⟨by omega,by omega,c4,fun x hx=>⟨(c5.1 x hx).1,by have:=(c5.1 x hx).2;omega⟩,fun x hx=>⟨(c5.2 x hx).1,by have:=(c5.2 x hx).2;omega⟩,c1,c5,c6,g1,g2,g3⟩
      ·rw[Iy c6] at hc;cases hc
     ·rw[Iy c5] at hc;cases hc
    ·rw[Iy c4] at hc;cases hc
 ·rw[Iy c1] at hc;cases hc
end Go.MnOM
set_option maxRecDepth 100000
namespace Go.MnOM
open Go.Sp Go.MnO Go.MdM

theorem Xe (h:List Int) (A B:Nat) (hA:A < h.length) (hB:B < h.length) (x:Int):(swp h A B).count x=h.count x:=by
 unfold swp
 have gA:h.getD A 0=h[A]:=by rw[List.getD_eq_getElem?_getD,List.getElem?_eq_getElem hA,Option.getD_some]
 have gB:h.getD B 0=h[B]:=by rw[List.getD_eq_getElem?_getD,List.getElem?_eq_getElem hB,Option.getD_some]
 rw[gA,gB,List.count_set (by simpa using hB),List.count_set hA]
 have hg : (h.set A h[B])[B]'(by simpa using hB) = h[B] := by
  rw[List.getElem_set];split <;> rfl
 rw[hg]
 have p1:(if h[A] == x then 1 else 0)≤h.count x:=by
  split
  ·rename_i e;rw[←eq_of_beq e];exact List.count_pos_iff.2 (List.getElem_mem hA)
  ·exact Nat.zero_le _
 have p2:(if h[B] == x then 1 else 0)≤h.count x:=by
  split
  ·rename_i e;rw[←eq_of_beq e];exact List.count_pos_iff.2 (List.getElem_mem hB)
  ·exact Nat.zero_le _
 omega
theorem Xf {k:Int} {a b:List Int} (h:∀ x,a.count x=b.count x) (hb:MF k b):MF k a:=by
 intro x hx
 have h1:=List.count_pos_iff.2 hx
 rw[h x] at h1
 exact hb x (List.count_pos_iff.1 h1)
theorem dC {k:Int} {h w:List Int} {A B:Nat} (hA:A < h.length) (hB:B < h.length) (ho:Ok k h w):chk k (swp h A B) w=0:=by
 have hc:=Xe h A B hA hB
 have hl:=O3 h A B
 have h1:=ho.n1
 have h10:=ho.n10
 have h2:=ho.len
 unfold chk
 rw[Hw ho.k1,Iy (by omega),Iy (by omega),Hw (by omega),Hw ⟨Xf hc ho.kk.1,ho.kk.2⟩,Hw]
 intro x hx
 rw[hc];exact ho.ev x hx

noncomputable def hb (h w:List Int) (a b:Nat):Bool:=AY (CY (swp h a b) w) (CY h w)
noncomputable def OU (h w:List Int) (a:Nat):Nat→Nat→List (Nat×Nat)
 | 0,_=>[]
 | f+1,b=>(bif hb h w a b then [(a,b)] else [])++OU h w a f (b+1)
noncomputable def Gp (h w:List Int):Nat→Nat→List (Nat×Nat)
 | 0,_=>[]
 | f+1,a=>OU h w a (h.length - (a+1)) (a+1)++Gp h w f (a+1)
def pq (P:List (Nat×Nat)):List Value:=P.flatMap fun p=>[I (Int.ofNat p.1),I (Int.ofNat p.2)]
theorem OJ (P:List (Nat×Nat)):(pq P).length=P.length*2:=by
 induction P with
 | nil=>rfl
 | cons p C ih=>simp only[pq,List.flatMap_cons,List.length_append,List.length_cons,List.length_nil] at ih ⊢;omega
theorem uD (C D:List (Nat×Nat)):pq (C++D)=pq C++pq D:=by simp[pq]
theorem MI (C:List (Nat×Nat)):Au Ah (pq C)=true:=by
 rw[Bh,List.all_eq_true];intro x hx
 simp[pq] at hx
 obtain⟨a,b,_,h | h⟩:=hx <;> subst h <;> rfl
theorem Zx (C:List (Nat×Nat)) (a b:Nat):Br (Am 0 (pq C)) [I (Int.ofNat a),I (Int.ofNat b)]=pq (C++[(a,b)]):=by
 rw[BH,Bz,List.drop_zero,uD];rfl
theorem V8:∀ (C:List (Nat×Nat)) (i:Nat) (h:i < C.length),(pq C)[i*2]?=some (I (Int.ofNat C[i].1))∧(pq C)[i*2+1]?=some (I (Int.ofNat C[i].2))
 | [],i,h=>by simp at h
 | p::C,0,_=>⟨rfl,rfl⟩
 | p :: C, i + 1, h => by
  have ih:=V8 C i (by simpa using h)
  have e:pq (p::C)=I (Int.ofNat p.1)::I (Int.ofNat p.2)::pq C:=rfl
  have e2:(i+1)*2=i*2+1+1:=by omega
  rw[e,e2]
  simp only[List.getElem?_cons_succ,List.getElem_cons_succ]
  exact ih
def ps (P:List (Nat×Nat)):Sl:=⟨P.length,0,pq P⟩
theorem Zy (P:List (Nat×Nat)):an (Nat.ble (0+P.length*2) (len (pq P))) (Au Ah (Aq (P.length*2) (Am 0 (pq P))))=true:=by
 rw[Nat.zero_add,←OJ,Bz,List.drop_zero,Cg,List.take_length,MI,AV,ble_eq]
 simp
theorem iH (P:List (Nat×Nat)):Aq (P.length*2) (Am 0 (pq P))=pq P:=by
 rw[←OJ,Bz,List.drop_zero,Cg,List.take_length]
theorem O5 (h w:List Int) (a:Nat):∀ (f b:Nat),(OU h w a f b).length≤f
 | 0,_=>by simp[OU]
 | f + 1, b => by
  have:=O5 h w a f (b+1)
  unfold OU
  rw[List.length_append]
  cases hb h w a b <;> simp <;> omega

section
variable (n f1 f2:Nat) (k:Int) (h w:List Int) (ho:Ok k h w)
theorem AcB (pu:Af) (P:List (Nat×Nat)):QB pu n P.length (2*P.length) (pq P)=some (.tuple ⟨[Sl.v 2 (ps P),I 0]⟩):=by
 unfold QB;rw[MI,Ak,Zy,Ak,iH];rfl
include ho
theorem uE (a N':Nat) (ih0:Int→Nat→Nat→Int→Int→Int→Sl→Sl→List Value→Option Value) (ha:a < h.length):∀ (f b:Nat) (P:List (Nat×Nat)),h.length - b < f→a < b→b≤h.length→P.length≤N'→N'+(h.length - b)≤900 →
 QD (Eb (n + 16)) 1000000 ih0 f (CY h w) P.length (2 * P.length) (Int.ofNat a) (Int.ofNat b) (Int.ofNat h.length) (Int.ofNat a) k (sl f1 h) (sl f2 w) (pq P) =
  ih0 (CY h w) (P++OU h w a (h.length - b) b).length (2*(P++OU h w a (h.length - b) b).length) (Int.ofNat h.length) (Int.ofNat (a+1)) k (sl f1 h) (sl f2 w) (pq (P++OU h w a (h.length - b) b)):=by
 have h10:=ho.n10
 intro f
 induction f generalizing N' with
 | zero=>intro b P hi;omega
 | succ f ih =>
  intro b P hi hab hbl hP hN
  show Uf (Eb (n+16)) 1000000 ih0 (QD (Eb (n+16)) 1000000 ih0 f) _ _ _ _ _ _ _ _ _ _ _=_
  unfold Uf
  rw[MI,Ak]
  by_cases hlt:b < h.length
  ·have e1:=p43 (n+15) f1 f2 a b k h w (by omega) (by have:=ho.len;omega) ha hlt
   have o2:=iG (dC ha hlt ho)
   have e2:=p44 (n+2) 0 0 k (swp h a b) w o2.n10 o2.len o2.kh o2.kw
   have hs:h.length - b=(h.length - (b+1))+1:=by omega
   unfold tr S at e1 e2
   rw[I4,FL hlt,Ak,e1]
   simp only[Ac,RL,Dj,EG,BP,Dc]
   rw[e2]
   simp only[Ac,BP]
   rw[hs]
   unfold OU hb
   have g1:=WP 2 16 P.length 1 (pq P) (SA (by omega) (by omega)) (by omega) (OJ P)
   cases hc:AY (CY (swp h a b) w) (CY h w) with
   | true =>
    rw[Ak,g1,Ak,Zx,MI,Ak]
    unfold QC
    rw[MI,Ak,DC b (by omega)]
    have:=ih (N'+1) (b+1) (P++[(a,b)]) (by omega) (by omega) (by omega) (by simp;omega) (by omega)
    rw[List.length_append,List.length_singleton] at this
    simp only[AA,Nat.add_zero,cond_true]
    rw[this,List.append_assoc]
   | false =>
    rw[AA]
    unfold QC
    rw[MI,Ak,DC b (by omega),cond_false,List.nil_append]
    exact ih N' (b+1) P (by omega) (by omega) (by omega) (by omega) (by omega)
  ·have:b=h.length:=by omega
   subst this
   rw[I4,FD hlt,AA]
   unfold WA
   rw[MI,Ak,DC a (by omega),Nat.sub_self]
   unfold OU
   rw[List.append_nil]
theorem l13:∀ (f a:Nat) (P:List (Nat×Nat)),h.length - a < f→a≤h.length→P.length≤10*a →
 KT (Eb (n+16)) 1000000 f (CY h w) P.length (2*P.length) (Int.ofNat h.length) (Int.ofNat a) k (sl f1 h) (sl f2 w) (pq P)=some (.tuple ⟨[Sl.v 2 (ps (P++Gp h w (h.length - a) a)),I 0]⟩):=by
 have h10:=ho.n10
 intro f
 induction f with
 | zero=>intro a P hi;omega
 | succ f ih =>
  intro a P hi ha hP
  show Ug (Eb (n+16)) 1000000 (KT (Eb (n+16)) 1000000 f) _ _ _ _ _ _ _ _ _=_
  unfold Ug
  rw[MI,Ak]
  by_cases hlt:a < h.length
  ·rw[FL hlt,Ak,DC a (by omega)]
   rw[uE n f1 f2 k h w ho a (10*a) (KT (Eb (n+16)) 1000000 f) hlt 1000000 (a+1) P (by omega) (by omega) (by omega) hP (by omega)]
   have hl:=O5 h w a (h.length - (a+1)) (a+1)
   rw[ih (a+1) _ (by omega) (by omega) (by rw[List.length_append];omega),show h.length - a=h.length - (a+1)+1 by omega]
   conv=>rhs;unfold Gp
   rw[List.append_assoc]
  ·have:a=h.length:=by omega
   subst this
   rw[FD hlt,AA,AcB,Nat.sub_self]
   unfold Gp
   rw[List.append_nil]
end
theorem AdU:nt (Bd (0:Int) 0)=false:=rfl
theorem p29 (n f1 f2:Nat) (k:Int) (h w:List Int) (ho:Ok k h w) (hc:chk k h w=0):Eb (n+17) 29 [tr f1 f2 k h w]=some (.tuple ⟨[I (CY h w),I 0]⟩):=by
 refine Eq.trans (b:=bM (Eb (n+16)) 1000000 k (sl f1 h) (sl f2 w)) (by kernel_rfl) ?_
 unfold bM
 have e1:=p47 (n+14) f1 f2 k h w
 have e2:=p44 (n+2) f1 f2 k h w ho.n10 ho.len ho.kh ho.kw
 unfold tr S at e1 e2
 rw[e1,Ac,BP,Ac,hc,AdU,AA,e2];rfl
section
variable (pu:Af) (n:Nat) (k:Int) (s t:Sl) (e12:pu 12 []=some (Value.bool true))
include e12
end
theorem e12 (n:Nat):Eb (n+1) 12 []=some (Value.bool true):=by kernel_rfl
end Go.MnOM
set_option maxRecDepth 100000
namespace Go.MdM
theorem V9 {α β:Type} {f g:α→Option β}:∀ (l:List α),(∀ a∈l,f a=g a)→l.findSome? f=l.findSome? g
 | [],_=>rfl
 | a::l,h=>by rw[List.findSome?_cons,List.findSome?_cons,h a (by simp),V9 l (fun b hb=>h b (by simp[hb]))]
variable {N:Nat} {H W:Nat→Int}
theorem LX {Q:Bn→Prop} (hQ:∀ A B:Bn,(∀ i,i < N→A i=B i)→(Q A↔Q B)) (f:Nat):∀ (k:Nat) (A B:Bn) (last:Nat),(∀ i,i < N→A i=B i)→OH N H W Q f k A last=OH N H W Q f k B last
 | 0,_,_,_,_=>rfl
 | k + 1, A, B, last, h => by
  unfold OH
  have this:(W last=H f∧Q A)↔(W last=H f∧Q B):=and_congr Iff.rfl (hQ A B h)
  have hf:(els N B).findSome? (fun i=>if H i=W last then (OH N H W Q f k (del A i) i).map (i :: ·) else none)=(els N B).findSome? (fun i=>if H i=W last then (OH N H W Q f k (del B i) i).map (i :: ·) else none):=V9 _ (fun i _=>by rw[LX hQ f k _ _ i (OE h i)])
  rw[LW h,hf]
  by_cases hc:W last=H f∧Q A
  ·rw[if_pos hc,if_pos (this.1 hc)]
  ·rw[if_neg hc,if_neg (fun g=>hc (this.2 g))]
theorem UI {Q:Bn→Prop} (f:Nat):∀ (k k':Nat) (R:Bn) (last:Nat),card N R < k→card N R < k'→OH N H W Q f k R last=OH N H W Q f k' R last
 | 0,_,_,_,h,_=>by omega
 | _+1,0,_,_,_,h=>by omega
 | k + 1, k' + 1, R, last, h1, h2 => by
  unfold OH
  have hf:(els N R).findSome? (fun i=>if H i=W last then (OH N H W Q f k (del R i) i).map (i :: ·) else none)=(els N R).findSome? (fun i=>if H i=W last then (OH N H W Q f k' (del R i) i).map (i :: ·) else none):=V9 _ (fun i hi=>by
   obtain⟨a,b⟩:=Eo.1 hi
   have:=FM a b
   rw[UI f k k' (del R i) i (by omega) (by omega)])
  rw[hf]
end Go.MdM
namespace Go.MnOM
open Go.Sp Go.MnO Go.MdM

theorem p72 (n:Nat) (bg:List Nat):Eb (n+1) 72 [S 0 (nI bg)]=some (S 1 (nI bg)):=by
 have e:KY 1 (sl 0 (nI bg))=sl 1 (nI bg):=by
  unfold KY
  rw[show Nat.beq (sl 0 (nI bg)).fl 2=false from rfl,AA]
  have t:=takeN bg
  rw[I4,GX,Gy,Nat.zero_mul,Nat.sub_zero,t];unfold sl;rw[Gy]
 refine Eq.trans (b:=bT (Eb n) 1000000 (sl 0 (nI bg))) (by kernel_rfl) ?_
 unfold bT
 rw[e];rfl
theorem uF (r:List Nat) (a:Nat):Br ((nI r).map I) [I (Int.ofNat a)]=(nI (r++[a])).map I:=by
 rw[BH,tY,List.map_append];rfl
def Qr (h w:List Int) (r:Nat):Bn→Prop:=fun R=>Bp h.length (fn h) (fn w) R∧M h.length (fn h) (fn w) R=r
theorem UJ (h w:List Int) (r:Nat) (A B:Bn) (g:∀ i,i < h.length→A i=B i):Qr h w r A↔Qr h w r B:=by
 unfold Qr;rw[K9 g,G5 g]
def SB (bg:List Nat):Option (List Nat)→Value
 | some e=>S 0 (nI (bg++e))
 | none=>Sl.v 1 ⟨0,2,[]⟩
noncomputable def fd (h w:List Int) (r f d:Nat) (R:Bn) (last:Nat):Nat→Option (List Nat):=fun i=>if fn h i=fn w last then (OH h.length (fn h) (fn w) (Qr h w r) f d (del R i) i).map (i :: ·) else none
section
variable (fl fl':Nat) (k:Int) (h w:List Int) (hN:h.length≤10) (hw:w.length=h.length) (hk:U0 h) (hkw:U0 w)
def Dn (r n d:Nat):Prop:=∀ s bg f last es c,card h.length (tb s) < d→s < 2 ^ h.length→Gm h w es→bg.length+d≤900→f < h.length→last < h.length→bg[0]?=some f→bg[bg.length - 1]?=some last →
 ∃ es' c',Eb n 10680 [ptr,S 0 (nI bg),U s,I (Int.ofNat r),OT fl fl' k h w,mp es c]=some (.tuple ⟨[SB bg (OH h.length (fn h) (fn w) (Qr h w r) f d (tb s) last),OT fl fl' k h w,mp es' c']⟩)∧Gm h w es'
include hN hw
theorem uG (r n d s:Nat) (bg:List Nat) (f last:Nat) (hs:s < 2 ^ h.length) (hd:card h.length (tb s) < d+1) (hbg:bg.length+d < 900) (hf:f < h.length) (hl:last < h.length) (hb0:bg[0]?=some f) (ih0:Dn fl fl' k h w r (n+1) d):∀ (g i c:Nat) (es:List EO),(eL s).length - i < g→i≤(eL s).length→Gm h w es →
 ∃ es' c', Je (Eb (n + 1)) 1000000 g (sl 0 (nI bg)) (Int.ofNat s) (Int.ofNat r) (Int.ofNat last) (sl 0 (eL s)) (Int.ofNat (eL s).length) (Int.ofNat i) k (sl fl h) (sl fl' w) es c =
  some (.tuple ⟨[SB bg (((els h.length (tb s)).drop i).findSome? (fd h w r f d (tb s) last)),OT fl fl' k h w,mp es' c']⟩)∧Gm h w es':=by
 intro g
 have heL:=Zu hN hs
 have hlen:(eL s).length=(els h.length (tb s)).length:=by rw[heL,List.length_map]
 have hcd:(els h.length (tb s)).length≤10:=by
  rw[Gs];unfold card;exact Nat.le_trans List.countP_le_length (by simpa using hN)
 induction g with
 | zero=>intro i c es hi;omega
 | succ g ih =>
  intro i c es hi hil hg
  show ∃ es' c',K6 (Eb (n+1)) 1000000 (Je (Eb (n+1)) 1000000 g) _ _ _ _ _ _ _ _ _ _ _ _=_∧_
  unfold K6
  rw[Fh hg.1,Ak]
  by_cases hlt:i < (eL s).length
  ·have hlt':i < (els h.length (tb s)).length:=by omega
   have hx:(eL s)[i]=Int.ofNat ((els h.length (tb s))[i]):=by simp only[heL,List.getElem_map]
   obtain⟨x1,x2⟩:=Eo.1 (List.getElem_mem hlt')
   rw[List.drop_eq_getElem_cons hlt',List.findSome?_cons]
   generalize hxe:(els h.length (tb s))[i]=x at *
   have hcl:=UG s x h.length hs
   have hdel:∀ j,j < h.length→tb (cl s x) j=del (tb s) x j:=Sz hN
   have hcd2:card h.length (tb (cl s x)) < d:=by
    rw[FN hdel];have:=FM x1 x2;omega
   have next : ∀ (c1 : Nat) (es1 : List EO), Gm h w es1 → ∃ es' c', Kb (Eb (n + 1)) 1000000 (Je (Eb (n + 1)) 1000000 g) (sl 0 (nI bg)) (Int.ofNat s) (Int.ofNat r) (Int.ofNat last) (sl 0 (eL s)) (Int.ofNat (eL s).length) (Int.ofNat i) k (sl fl h) (sl fl' w) es1 c1 =
    some (.tuple ⟨[SB bg (((els h.length (tb s)).drop (i+1)).findSome? (fd h w r f d (tb s) last)),OT fl fl' k h w,mp es' c']⟩)∧Gm h w es':=by
    intro c1 es1 g1
    unfold Kb
    rw[Fh g1.1,Ak,DC i (by omega)]
    exact ih (i+1) c1 es1 (by omega) (by omega) g1
   rw[FL hlt]
   have hgx:((eL s).map I)[i]?=some (I (Int.ofNat x)):=by rw[Aja _ i hlt,hx]
   have hlw:last < w.length:=by omega
   simp only[Ak,Cx,Ac,I4,GX,blt_eq,hlt,x1,hlw,decide_true,CF,Bool.true_and,BZ,Nat.mul_one,hgx,BP,Aja h x x1,Aja w last hlw,Nh s x (Nat.lt_of_lt_of_le hs (UH hN)) (by omega)]
   by_cases hc:h[x]=w[last]
   ·have q:Bd h[x] w[last]=true:=by simp[Lr,hc]
    have hfd:fd h w r f d (tb s) last x=(OH h.length (fn h) (fn w) (Qr h w r) f d (tb (cl s x)) x).map (x :: ·):=by
     unfold fd
     rw[if_pos (by rw[Gw x1,Gw hlw,hc]),LX (UJ h w r) f d _ _ x hdel]
    have hla:(bg++[x]).length=bg.length+1:=by simp
    obtain ⟨es1, c1, e1, g1⟩ := ih0 (cl s x) (bg ++ [x]) f x es c hcd2 hcl hg (by rw [hla]; omega) hf x1 (by
     rw[List.getElem?_append_left];exact hb0
     exact(List.getElem?_eq_some_iff.1 hb0).1) (by rw[hla];simp)
    have p:=p72 n bg
    unfold S at p
    rw[q,Ak,p,Ac,Dc,Ac]
    have w1:=uA (bg++[x])
    have t1:=takeN (bg++[x])
    rw[hla] at w1 t1
    have r1:=SA (n:=bg.length+1) (b:=8) (by omega) (by omega)
    rw[show Nat.beq (sl 1 (nI bg)).fl 1=true from rfl]
    simp only[I4,GX,Gy,Ed,Bool.true_or,r1,CF,Bool.and_true,Ak,uF,Nat.mul_one] at w1 t1 ⊢
    rw[w1,Ak,t1]
    have sR:Sl.v 1 (Sl.mk (bg.length+1) 0 ((nI (bg++[x])).map I))=S 0 (nI (bg++[x])):=by
     unfold S sl;rw[Gy,hla]
    rw[sR]
    unfold OT mp ptr at e1
    have e1':Eb (n+1) 10680 [.pointer (some ⟨1,0,none⟩),S 0 (nI (bg++[x])),.int .u16 (Int.ofNat (cl s x)),.int .i64 (Int.ofNat r),.agg ⟨[.int .i64 k,Sl.v 1 (sl fl h),Sl.v 1 (sl fl' w),.map (some 2)]⟩,Ef (.map es c)]=some (.tuple ⟨[SB (bg++[x]) (OH h.length (fn h) (fn w) (Qr h w r) f d (tb (cl s x)) x),.agg ⟨[.int .i64 k,Sl.v 1 (sl fl h),Sl.v 1 (sl fl' w),.map (some 2)]⟩,Ef (.map es1 c1)]⟩):=e1
    rw[e1',hfd]
    cases hD:OH h.length (fn h) (fn w) (Qr h w r) f d (tb (cl s x)) x with
    | none =>
     obtain⟨es2,c2,e2,g2⟩:=next c1 es1 g1
     refine⟨es2,c2,?_,g2⟩
     simp only[SB,Ac,FW,Dj,EG,RL,BP,Dc,CX,Fh g1.1,Ak]
     rw[show FC (Value.map (some 2)) 2=true from rfl,Ak,show Nat.beq 2 2=true from rfl,show bq false true=false from rfl,AA,Bool.true_or,Ak]
     exact e2
    | some e =>
     refine⟨es1,c1,?_,g1⟩
     have hne:Nat.ble 1 (bg++[x]++e).length=true:=by rw[Nat.ble_eq];simp only[List.length_append,List.length_singleton];omega
     simp only[SB,S,Ac,FW,Dj,EG,RL,BP,Dc,CX,Fh g1.1,Ak,Option.map_some,I4,Gy,hne]
     rw[show FC (Value.map (some 2)) 2=true from rfl,Ak,show Nat.beq (sl 0 (nI (bg++[x]++e))).fl 2=false from rfl,show bq false false=true from rfl,Ak,Bool.or_true,Bool.or_true,Ak]
     rw[List.append_assoc];rfl
   ·have q:Bd h[x] w[last]=false:=by simp[Lr,hc]
    have hfd:fd h w r f d (tb s) last x=none:=by
     unfold fd
     rw[if_neg (by rw[Gw x1,Gw hlw];exact hc)]
    rw[q,AA,hfd]
    exact next c es hg
  ·have hi':i=(eL s).length:=by omega
   subst hi'
   rw[FD hlt,AA,List.drop_of_length_le (by omega)]
   unfold K5
   rw[Fh hg.1,Ak]
   exact⟨es,c,rfl,hg⟩
include hk hkw
theorem uH (r:Nat):∀ (d n:Nat),Dn fl fl' k h w r (n+d+15) d:=by
 intro d
 induction d with
 | zero=>intro n s bg f last es c hd;omega
 | succ d ih =>
  intro n s bg f last es c hd hs hg hbg hf hl hb0 hbl
  have e0:Eb (n+(d+1)+15) 10680 [ptr,S 0 (nI bg),U s,I (Int.ofNat r),OT fl fl' k h w,mp es c]=LP (Eb (n+(d+1)+14)) 1000000 (sl 0 (nI bg)) (Int.ofNat s) (Int.ofNat r) k (sl fl h) (sl fl' w) es c:=by
   show MG _ _ [ptr,S 0 (nI bg),U s,I (Int.ofNat r),OT fl fl' k h w,mp es c]=_
   unfold MG OT S mp ptr
   simp only[Dj,EG,CX,Ab7,BP,RL,Dc,Ac]
   rfl
  rw[e0]
  have h0:0 < bg.length:=(List.getElem?_eq_some_iff.1 hb0).1
  have hs10:=Nat.lt_of_lt_of_le hs (UH hN)
  have loop : ∀ (b : Bool) (es1 : List EO) (c1 : Nat), Gm h w es1 → (b = true → ¬ (fn w last = fn h f ∧ Qr h w r (tb s)) → False) → (b = false → (fn w last = fn h f ∧ Qr h w r (tb s)) → False) →
   ∃ es' c',Jf (Eb (n+(d+1)+14)) 1000000 (sl 0 (nI bg)) (Int.ofNat s) (Int.ofNat r) (Int.ofNat last) b k (sl fl h) (sl fl' w) es1 c1=some (.tuple ⟨[SB bg (OH h.length (fn h) (fn w) (Qr h w r) f (d+1) (tb s) last),OT fl fl' k h w,mp es' c']⟩)∧Gm h w es':=by
   intro b es1 c1 g1 hb1 hb2
   unfold Jf OH
   rw[Fh g1.1,Ak]
   by_cases hc:fn w last=fn h f∧Qr h w r (tb s)
   ·cases b with
    | false=>exact(hb2 rfl hc).elim
    | true =>
     refine⟨es1,c1,?_,g1⟩
     have e:SB bg (some [])=S 0 (nI bg):=by show S 0 (nI (bg++[]))=_;rw[List.append_nil]
     rw[if_pos hc,Ak,e];rfl
   ·cases b with
    | true=>exact(hb1 rfl hc).elim
    | false =>
     rw[if_neg hc,AA]
     have p:=p62 (n+d+13) s hs10
     rw[iE s hs10] at p
     have p':Eb (n+(d+1)+14) 62 [.int .u16 (Int.ofNat s)]=some (S 0 (eL s)):=by
      rw[show n+(d+1)+14=n+d+13+2 by omega];exact p
     rw[p',Ac]
     unfold S
     rw[Dc,Ac,I4]
     have:=uG fl fl' k h w hN hw r (n+d+14) d s bg f last hs hd (by omega) hf hl hb0 (ih n) 1000000 0 c1 es1 (by rw[Zu hN hs,List.length_map,Gs];unfold card;have:=List.countP_le_length (l:=List.range h.length) (p:=tb s);rw[List.length_range] at this;omega) (by omega) g1
     rw[List.drop_zero] at this
     rw[show n+(d+1)+14=n+d+14+1 by omega]
     exact this
  unfold LP
  have hlw:last < w.length:=by omega
  have hb1:bg.length - 1 < bg.length:=by omega
  have hgl:((nI bg).map I)[bg.length - 1]?=some (I (Int.ofNat last)):=by
   rw[tZ bg _ hb1];rw[List.getElem?_eq_getElem hb1] at hbl;injection hbl with hbl;rw[hbl]
  have hgf:((nI bg).map I)[0]?=some (I (Int.ofNat f)):=by
   rw[tZ bg _ h0];rw[List.getElem?_eq_getElem h0] at hb0;injection hb0 with hb0;rw[hb0]
  have hsub:Aj .i64 (Int.sub (Int.ofNat bg.length) 1)=Int.ofNat (bg.length - 1):=by
   have e:Int.sub (Int.ofNat bg.length) 1=Int.ofNat (bg.length - 1):=by show (bg.length:Int) - 1=((bg.length - 1:Nat):Int);omega
   rw[e]
   exact Oe _ (by show _≤((bg.length - 1:Nat):Int);omega) (by show ((bg.length - 1:Nat):Int)≤_;omega)
  rw[Fh hg.1,Ak,I4,Gy,hsub]
  simp only[Ak,Cx,Ac,I4,GX,Gy,blt_eq,hb1,h0,hf,hlw,decide_true,CF,Bool.true_and,BZ,Nat.mul_one,Nat.zero_mul,hgl,hgf,BP,Aja h f hf,Aja w last hlw]
  by_cases hc:w[last]=h[f]
  ·have q:Bd w[last] h[f]=true:=by simp[Lr,hc]
   rw[q,Ak]
   obtain⟨b,e,hb⟩:=p71 (n+d+13) fl fl' s k h w hN hw hs10 hk hkw
   unfold tr S at e
   rw[show n+(d+1)+14=n+d+13+2 by omega,e,Ac,BU,Ac]
   rw[show n+(d+1)+14=n+d+13+2 by omega] at loop
   cases b with
   | false =>
    rw[AA]
    exact loop false es c hg (fun x=>by cases x) (fun _ g=>by simpa using hb.2 g.2.1)
   | true =>
    rw[Ak]
    try rw[Ak]
    have hMo:=V5 fl fl' k h w hN hw hk hkw 10 (n+d+2)
    rw[show n+d+2+10+3=n+d+13+2 by omega] at hMo
    obtain⟨es1,c1,e1,g1⟩:=hMo s es c (Nat.le_trans (Kh _ _) hN) hs hg
    unfold OT S mp ptr at e1
    have e1':Eb (n+d+13+2) 10660 [.pointer (some ⟨1,0,none⟩),.int .u16 (Int.ofNat s),.agg ⟨[.int .i64 k,Sl.v 1 (sl fl h),Sl.v 1 (sl fl' w),.map (some 2)]⟩,Ef (.map es c)]=some (.tuple ⟨[I (Co h w s),.agg ⟨[.int .i64 k,Sl.v 1 (sl fl h),Sl.v 1 (sl fl' w),.map (some 2)]⟩,Ef (.map es1 c1)]⟩):=e1
    rw[e1']
    simp only[Ac,FW,Dj,EG,RL,BP,Dc,CX,Fh g1.1,Ak]
    rw[show FC (Value.map (some 2)) 2=true from rfl,Ak]
    refine loop _ es1 c1 g1 (fun x y=>y ⟨by rw[Gw hlw,Gw hf,hc],hb.1 rfl,?_⟩) (fun x y=>?_)
    ·rw[Lr] at x
     have x:=of_decide_eq_true x
     unfold Co at x
     exact Int.ofNat.inj x
    ·have z:=y.2.2
     unfold Co at x
     rw[z,Lr] at x
     simp at x
  ·have q:Bd w[last] h[f]=false:=by simp[Lr,hc]
   rw[q,AA]
   exact loop false es c hg (fun x=>by cases x) (fun _ g=>hc (by have:=g.1;rwa [Gw hlw,Gw hf] at this))
end
end Go.MnOM
set_option maxRecDepth 100000
namespace Go.MdM
variable {N:Nat} {H W:Nat→Int}
theorem Zz {A B:Bn} (h:∀ i,i < N→A i=B i):Qs N H W A=Qs N H W B:=by
 funext R;unfold Qs;rw[G5 h]
theorem RQ {A B:Bn} (h:∀ i,i < N→A i=B i) (r:List Nat):∀ i,i < N→rem A r i=rem B r i:=fun i hi=>by unfold rem;rw[h i hi]
theorem uI (S:Bn) (A B:Bn) (h:∀ i,i < N→A i=B i):Qs N H W S A↔Qs N H W S B:=by
 unfold Qs;rw[K9 h,G5 h]
theorem UK:∀ (k:Nat) (A B:Bn),(∀ i,i < N→A i=B i)→gr N H W k A=gr N H W k B
 | 0,_,_,_=>rfl
 | k + 1, A, B, h => by
  unfold gr
  rw[LW h]
  cases els N B with
  | nil=>rfl
  | cons f l =>
   dsimp only
   rw[Zz (H:=H) (W:=W) h,FN h,LX (uI B) f _ _ _ f (OE h f),UK k _ _ (RQ h _)]
theorem ZA {Q:Bn→Prop} {f:Nat}:∀ (e:List Nat) (R:Bn) (last:Nat),BB N H W Q f R last e→e.length≤card N R
 | [],_,_,_=>Nat.zero_le _
 | i :: e, R, last, hr => by
  obtain⟨h1,h2,_,h4⟩:=hr
  have:=ZA e _ _ h4
  have:=FM h1 h2
  rw[List.length_cons];omega
end Go.MdM
namespace Go.MnOM
open Go.Sp Go.MnO Go.MdM

theorem q48 (k:Nat) (args:List Value):Eb (k+1) 48 args=vC (Eb k) L args:=by kernel_rfl
theorem AdV (pu:Af) (fl fl':Nat) (k:Int) (h w:List Int):vC pu L [tr fl fl' k h w]=bP pu L k (sl fl h) (sl fl' w):=by kernel_rfl
theorem AcC (pu:Af):NL (fun s=>bZ (bS pu 1000000 (Int.ofNat s)) (Int.ofNat ((els 10 (tb s)).headD 16))) 1024=true:=by kernel_rfl
theorem p67 (n s:Nat) (hs:s < 1024):Eb (n+1) 67 [.int .u16 (Int.ofNat s)]=some (I (Int.ofNat ((els 10 (tb s)).headD 16))):=by
 refine Eq.trans (b:=bS (Eb n) 1000000 (Int.ofNat s)) (by kernel_rfl) ?_
 exact WL (Rp (AcC _) s hs)
theorem AcD {s m:Nat} (hm:m≤10) (hs:s < 2 ^ m):els 10 (tb s)=els m (tb s):=by
 have:=Zu hm hs
 unfold eL at this
 have inj:∀ (a b:List Nat),a.map Int.ofNat=b.map Int.ofNat→a=b:=by
  intro a
  induction a with
  | nil=>intro b h;cases b with | nil=>rfl | cons=>simp at h
  | cons x a ih => intro b h; cases b with
   | nil=>simp at h
   | cons y b=>rw[List.map_cons,List.map_cons] at h;injection h with h1 h2;rw[Int.ofNat.inj h1,ih b h2]
 exact inj _ _ this
def clA:Nat→List Nat→Nat
 | s,[]=>s
 | s,i::r=>clA (cl s i) r
theorem ZB (m:Nat):∀ (r:List Nat) (s:Nat),s < 2 ^ m→clA s r < 2 ^ m
 | [],_,h=>h
 | i::r,s,h=>ZB m r _ (UG s i m h)
theorem WQ {m:Nat} (hm:m≤10):∀ (r:List Nat) (s:Nat),∀ i,i < m→tb (clA s r) i=rem (tb s) r i
 | [],s,i,_=>by rw[WK];rfl
 | j :: r, s, i, hi => by
  rw[Kc]
  exact(WQ hm r (cl s j) i hi).trans (RQ (N:=m) (Sz hm) r i hi)
section
variable (fl fl':Nat) (k:Int) (h w:List Int) (hN:h.length≤10) (hw:w.length=h.length) (hk:U0 h) (hkw:U0 w)
theorem dP (pu:Af) (m:Nat) (ih0:Nat→Nat→Int→Int→Sl→Sl→List Value→List EO→Nat→Option Value) (a b c:Nat) (L:List (List Nat)) (es:List EO) (hg:Gm h w es) (r:List Nat) (hr:∀ i∈r,i < 10) (hrl:r.length≤900) :
 ∀ (g i s:Nat),r.length - i < g→i≤r.length→s < 1024→Um pu m ih0 g a b (Int.ofNat s) (sl 0 (nI r)) (Int.ofNat r.length) (Int.ofNat i) k (sl fl h) (sl fl' w) (L.map rv) es c=ih0 a b (Int.ofNat (clA s (r.drop i))) k (sl fl h) (sl fl' w) (L.map rv) es c:=by
 intro g
 induction g with
 | zero=>intro i s hi;omega
 | succ g ih =>
  intro i s hi hil hs
  show Ul pu m ih0 (Um pu m ih0 g) _ _ _ _ _ _ _ _ _ _ _ _=_
  unfold Ul
  rw[vF,Ak,Fh hg.1,Ak]
  by_cases hlt:i < r.length
  ·rw[FL hlt,List.drop_eq_getElem_cons hlt]
   have hx:=hr r[i] (List.getElem_mem hlt)
   simp only[Ak,Cx,Ac,I4,GX,Gy,blt_eq,hlt,decide_true,CF,Bool.true_and,BZ,Nat.mul_one,tZ r i hlt,BP,Nh s r[i] hs hx,DC i (by omega)]
   rw[ih (i+1) (cl s r[i]) (by omega) (by omega) (UG s _ 10 hs)]
   rfl
  ·have:i=r.length:=by omega
   subst this
   rw[FD hlt,AA,List.drop_length]
   rfl
include hN hw hk hkw
theorem l48 (n:Nat):∀ (kk g s c:Nat) (es:List EO) (L:List (List Nat)),card h.length (tb s)≤kk→kk < g→s < 2 ^ h.length→Bp h.length (fn h) (fn w) (tb s)→Gm h w es→L.length+kk≤100 →
 M8 (Eb (n+26)) 1000000 g L.length (2*L.length) (Int.ofNat s) k (sl fl h) (sl fl' w) (L.map rv) es c=some (Sl.v 1 (LL 0 (L++gr h.length (fn h) (fn w) kk (tb s)))):=by
 intro kk
 have fin:∀ (g c:Nat) (es:List EO) (L:List (List Nat)),Gm h w es→0 < g→M8 (Eb (n+26)) 1000000 g L.length (2*L.length) (Int.ofNat 0) k (sl fl h) (sl fl' w) (L.map rv) es c=some (Sl.v 1 (LL 0 L)):=by
  intro g c es L hg h0
  cases g with
  | zero=>omega
  | succ g =>
   show Pn _ _ _ _ _ _ _ _ _ _ _ _=_
   unfold Pn
   rw[vF,Ak,Fh hg.1,Ak,show nt (Bd (Int.ofNat 0) 0)=false from rfl,AA]
   unfold Uk
   rw[vF,Ak,uB,Ak,uC]
   rfl
 have zer:∀ s,s < 2 ^ h.length→els h.length (tb s)=[]→s=0:=by
  intro s hs he
  have hz:card h.length (tb s)=0:=by rw[←Gs,he];rfl
  apply Nat.eq_of_testBit_eq
  intro i
  rw[Nat.zero_testBit]
  by_cases hi:i < h.length
  ·exact Gu hz i hi
  ·exact Ni hs (by omega)
 induction kk with
 | zero =>
  intro g s c es L hc hg0 hs hE hg hL
  have:s=0:=zer s hs (by apply List.length_eq_zero_iff.1;rw[Gs];omega)
  subst this
  rw[show gr h.length (fn h) (fn w) 0 (tb 0)=[] from rfl,List.append_nil]
  exact fin g c es L hg hg0
 | succ kk ih =>
  intro g s c es L hc hg0 hs hE hg hL
  cases he:els h.length (tb s) with
  | nil =>
   have:=zer s hs he
   subst this
   unfold gr
   rw[he]
   dsimp only
   rw[List.append_nil]
   exact fin g c es L hg (by omega)
  | cons f l =>
   obtain⟨f1,f2,f3⟩:=RO he
   have hcd:=FM f1 f2
   have hs10:=Nat.lt_of_lt_of_le hs (UH hN)
   obtain⟨d1,d2⟩:=YA (N:=h.length) (H:=fn h) (W:=fn w) (Q:=Qs h.length (fn h) (fn w) (tb s)) (f:=f) (card h.length (tb s)+1) (del (tb s) f) f (by omega)
   unfold gr
   rw[he]
   dsimp only
   cases hd:OH h.length (fn h) (fn w) (Qs h.length (fn h) (fn w) (tb s)) f (card h.length (tb s)+1) (del (tb s) f) f with
   | none =>
    obtain⟨e,he⟩:=QR (H:=fn h) (W:=fn w) (card h.length (tb s)) (tb s) f (Nat.le_refl _) hE f1 f2
    exact absurd he (d2 hd e)
   | some e =>
    obtain⟨g1,g2⟩:=d1 e hd
    obtain⟨g3,g4⟩:=(PM e _ _).1 g1
    obtain⟨g5,g6⟩:=g4
    simp only[Option.getD_some]
    rw[←Kc] at g5 g6
    have hsub:Nf h.length (rem (tb s) (f::e)) (del (tb s) f):=by intro j hj h;simp[rem,del] at h ⊢;exact⟨h.1,h.2.1⟩
    have hcl:card h.length (rem (tb s) (f::e))≤kk:=by
     have:card h.length (del (tb s) f)=card h.length (rem (tb s) (f::e))+_:=hsub.card
     omega
    have hr:∀ i∈f::e,i < h.length:=by
     intro i hi
     rcases List.mem_cons.1 hi with rfl | hi
     ·exact f1
     ·exact(PN e _ _ g3 i hi).1
    have hrl:(f::e).length≤11:=by
     have:=ZA e _ _ g3
     have:=Kh h.length (del (tb s) f)
     rw[List.length_cons];omega
    obtain⟨g,rfl⟩:∃ g',g=g'+1:=⟨g - 1,by omega⟩
    show Pn _ _ _ _ _ _ _ _ _ _ _ _=_
    unfold Pn
    have hs0:s≠0:=by
     rintro rfl
     simp[tb] at f2
    have q0:nt (Bd (Int.ofNat s) 0)=true:=by
     rw[Lr,Km];simp;omega
    rw[vF,Ak,Fh hg.1,Ak,q0,Ak]
    have p:=p67 (n+25) s hs10
    rw[AcD hN hs,he] at p
    rw[p]
    have hMo:=V5 fl fl' k h w hN hw hk hkw 10 (n+13)
    rw[show n+13+10+3=n+26 by omega] at hMo
    obtain⟨es1,c1,e1,q1⟩:=hMo s es c (Nat.le_trans (Kh _ _) hN) hs hg
    unfold OT S mp ptr at e1
    have e1':Eb (n+26) 10660 [.pointer (some ⟨1,0,none⟩),.int .u16 (Int.ofNat s),.agg ⟨[.int .i64 k,Sl.v 1 (sl fl h),Sl.v 1 (sl fl' w),.map (some 2)]⟩,Ef (.map es c)]=some (.tuple ⟨[I (Co h w s),.agg ⟨[.int .i64 k,Sl.v 1 (sl fl h),Sl.v 1 (sl fl' w),.map (some 2)]⟩,Ef (.map es1 c1)]⟩):=e1
    have hM:=tT h.length (fn h) (fn w) (tb s)
    have hsub:Aj .i64 (Int.sub (Co h w s) 1)=Int.ofNat (M h.length (fn h) (fn w) (tb s) - 1):=by
     unfold Co
     have e:Int.sub (Int.ofNat (M h.length (fn h) (fn w) (tb s))) 1=Int.ofNat (M h.length (fn h) (fn w) (tb s) - 1):=by show (M h.length (fn h) (fn w) (tb s):Int) - 1=((M h.length (fn h) (fn w) (tb s) - 1:Nat):Int);omega
     rw[e]
     exact Oe _ (by show _≤((M h.length (fn h) (fn w) (tb s) - 1:Nat):Int);omega) (by show ((M h.length (fn h) (fn w) (tb s) - 1:Nat):Int)≤_;omega)
    simp only[Ac,BP,Cx,List.headD_cons]
    rw[e1']
    simp only[Ac,FW,Dj,EG,RL,BP,Dc,CX,Fh q1.1,Ak]
    rw[show FC (Value.map (some 2)) 2=true from rfl,Ak,hsub,Nh s f hs10 (by omega)]
    have hRi:=uH fl fl' k h w hN hw hk hkw (M h.length (fn h) (fn w) (tb s) - 1) 11 n
    obtain⟨es2,c2,e2,q2⟩:=hRi (cl s f) [f] f f es1 c1 (Nat.lt_of_le_of_lt (Kh _ _) (by omega)) (UG s f _ hs) q1 (by simp) f1 f1 rfl rfl
    have hdf:OH h.length (fn h) (fn w) (Qr h w (M h.length (fn h) (fn w) (tb s) - 1)) f 11 (tb (cl s f)) f=some e:=by
     rw[←hd,LX (UJ h w _) f 11 _ _ f (Sz hN),UI f 11 (card h.length (tb s)+1) (del (tb s) f) f (Nat.lt_of_le_of_lt (Kh _ _) (by omega)) (by omega)]
     congr 1
     funext R
     unfold Qr Qs
     exact propext (and_congr Iff.rfl ⟨fun x=>by omega,fun x=>by omega⟩)
    rw[hdf] at e2
    unfold OT S mp ptr SB at e2
    have e2':Eb (n+26) 10680 [.pointer (some ⟨1,0,none⟩),Sl.v 1 (Sl.mk 1 0 (Aq (1*1) (Am 0 ([I (Int.ofNat f)]:List Value)))),.int .u16 (Int.ofNat (cl s f)),.int .i64 (Int.ofNat (M h.length (fn h) (fn w) (tb s) - 1)),.agg ⟨[.int .i64 k,Sl.v 1 (sl fl h),Sl.v 1 (sl fl' w),.map (some 2)]⟩,Ef (.map es1 c1)]=some (.tuple ⟨[Sl.v 1 (sl 0 (nI (f::e))),.agg ⟨[.int .i64 k,Sl.v 1 (sl fl h),Sl.v 1 (sl fl' w),.map (some 2)]⟩,Ef (.map es2 c2)]⟩):=e2
    rw[e2']
    simp only[Ac,FW,Dj,EG,RL,BP,Dc,CX,Fh q2.1,Ak]
    rw[show FC (Value.map (some 2)) 2=true from rfl,Ak]
    have gw:=WP 1 24 L.length 1 (L.map rv) (SA (by omega) (by omega)) (by omega) (by simp)
    have sn:=Acz L (f::e)
    unfold S at sn
    rw[gw,Ak,sn,vF,Ak,I4,Gy]
    have cap:2*(L.length+1)+bb false 1 0=2*(L.length+1):=rfl
    rw[cap]
    have hlen:(L++[f::e]).length=L.length+1:=by simp
    have q3:=dP fl fl' k h w (Eb (n+26)) 1000000 (M8 (Eb (n+26)) 1000000 g) (L.length+1) (2*(L.length+1)) c2 (L++[f::e]) es2 q2 (f::e) (fun i hi=>by have:=hr i hi;omega) (by omega) 1000000 0 s (by omega) (by omega) hs10
    rw[List.drop_zero] at q3
    have hrm:=WQ (m:=h.length) hN (f::e) s
    have q4:=ih g (clA s (f::e)) c2 es2 (L++[f::e]) (by rw[FN hrm];exact hcl) (by omega) (ZB _ _ _ hs) ((K9 hrm).2 g5) q2 (by rw[hlen];omega)
    rw[hlen] at q4
    refine Eq.trans q3 (q4.trans ?_)
    rw[UK kk _ _ hrm,List.append_assoc]
    rfl
theorem p48 (n:Nat) (hE:Bp h.length (fn h) (fn w) (tb (bv h w))):Eb (n+27) 48 [tr fl fl' k h w]=some (Sl.v 1 (LL 0 (C8 h w))):=by
 rw[q48,AdV,show L=1000000 from rfl]
 unfold bP
 have e2:=p51 (n+25) fl fl' k h w hN hw
 have e4:=Zw (n+25) fl fl' k h w
 unfold tr S at e2 e4
 unfold OT S mp ptr at e4
 rw[e4]
 simp -implicitDefEqProofs only [Ac,FW,Dj,EG,RL,BP,Dc,CX,Fh (gm0 h w).1,Ak]
 rw[show MK (Value.pointer (some ⟨1,0,none⟩)) 1 0=true from rfl,show FC (Value.map (some 2)) 2=true from rfl]
 simp -implicitDefEqProofs only [Ak]
 rw[e2]
 simp -implicitDefEqProofs only [Ac,Ab7]
 have e9:=l48 fl fl' k h w hN hw hk hkw n h.length 1000000 (bv h w) 1 _ [] (Kh _ _) (by omega) (Yw h w) hE (gm0 h w) (by simp;omega)
 exact e9
end
end Go.MnOM
namespace Go.MdV
def vG (v:Int):List Int→Nat→Nat→Nat
 | [],_,i=>i
 | x::h,c,i=>if x=v then (match c with | 0=>i | c+1=>vG v h c (i+1)) else vG v h c (i+1)
def less (a:Int):List Int→Nat
 | []=>0
 | b::l=>(if b < a then 1 else 0)+less a l
def inv:List Int→Nat
 | []=>0
 | a::l=>less a l+inv l
end Go.MdV
set_option maxRecDepth 100000
namespace Go.MnOM
open Go.Sp Go.MnO Go.MdV
section
variable (pu:Af) (n:Nat)
def put (A:Nat→List Int) (K i:Nat):Nat→List Int:=fun j=>if j=K then A j++[(i:Int)] else A j
end
section
variable (pu:Af) (n:Nat)
def one (U:Nat→Nat) (K:Nat):Nat→Nat:=fun j=>if j=K then U j+1 else U j
end

end Go.MnOM
namespace Go.MdM
variable {N N':Nat} {H W H' W':Nat→Int}
theorem WR (P:Nat→Bn→Bn→Prop)
 (step:∀ c S S',P c S S'→∀ i,i < N→S i=true→(∃ i',i' < N'∧S' i'=true∧P c (del S i) (del S' i'))∨(∃ c',c=c'+1∧P c' (del S i) S'))
 (ev:∀ c S S',P c S S'→Bp N H W S→Bp N' H' W' S'):∀ (k c:Nat) (S S':Bn),card N S≤k→P c S S'→M N H W S≤M N' H' W' S'+c
 | 0,c,S,S',hk,_=>by rw[I8 (by omega)];omega
 | k + 1, c, S, S', hk, hP => by
  by_cases h0:card N S=0
  ·rw[I8 h0];omega
  obtain⟨i,hi,hs,hm⟩:∃ i,i < N∧S i=true∧mx ((els N S).map fun i=>M N H W (del S i))≤M N H W (del S i):=by
   by_cases hz:mx ((els N S).map fun i=>M N H W (del S i))=0
   ·have hl:(els N S).length≠0:=by rw[Gs];exact h0
    obtain⟨i,hi⟩:=List.exists_mem_of_length_pos (Nat.pos_of_ne_zero hl)
    exact⟨i,(Eo.1 hi).1,(Eo.1 hi).2,by omega⟩
   ·obtain⟨i,hi,he⟩:=List.mem_map.1 (Sn hz)
    exact⟨i,(Eo.1 hi).1,(Eo.1 hi).2,by omega⟩
  have hc:=FM hi hs
  rw[Sq S h0]
  have ho:=V4 (Bp N H W S)
  rcases step c S S' hP i hi hs with⟨i',hi',hs',hP'⟩ | ⟨c',rfl,hP'⟩
  ·have h1:=WR P step ev k c _ _ (by omega) hP'
   by_cases he:Bp N H W S
   ·have h2:=Yx hi' hs' (ev _ _ _ hP he)
    omega
   ·have h2:=iD (H:=H') (W:=W') hi' hs'
    rw[UC he];omega
  ·have h1:=WR P step ev k c' _ _ (by omega) hP'
   omega
theorem WS {S:Bn}:Bp N H W S↔((els N S).map H).Perm ((els N S).map W):=by
 have e:∀ (f:Nat→Int) (x:Int),((els N S).map f).count x=cn N S f x:=fun f x=>by
  unfold els cn
  rw[List.count_eq_countP,List.countP_map,List.countP_filter]
  refine List.countP_congr fun i _=>?_
  simp only[Function.comp]
  rw[Bool.and_comm]
 rw[List.perm_iff_count]
 unfold Bp
 constructor
 ·intro h x;rw[e,e];exact h x
 ·intro h x;rw[←e,←e];exact h x
structure Xg (N N':Nat) (φ:Nat→Nat) (S S':Bn):Prop where
 lt:∀ i,i < N→S i=true→φ i < N'
 inj:∀ i j,i < N→j < N→S i=true→S j=true→φ i=φ j→i=j
 im:∀ j,j < N'→(S' j=true↔∃ i,i < N∧S i=true∧φ i=j)
theorem Ki {S:Bn} {i j:Nat}:del S i j=true↔S j=true∧j≠i:=by unfold del;simp
theorem Xg.del {φ:Nat→Nat} {S S':Bn} (h:Xg N N' φ S S') {i:Nat} (hi:i < N) (hs:S i=true):Xg N N' φ (del S i) (del S' (φ i)) where
 lt:=fun k hk hd=>h.lt k hk (Ki.1 hd).1
 inj:=fun a b ha hb h1 h2 e=>h.inj a b ha hb (Ki.1 h1).1 (Ki.1 h2).1 e
 im:=fun j hj=>by
  rw[Ki,h.im j hj]
  constructor
  ·rintro⟨⟨a,ha,hsa,e⟩,hne⟩
   exact⟨a,ha,Ki.2 ⟨hsa,fun h=>hne (by rw[←e,h])⟩,e⟩
  ·rintro⟨a,ha,hda,e⟩
   obtain⟨hsa,hne⟩:=Ki.1 hda
   exact⟨⟨a,ha,hsa,e⟩,fun hj=>hne (h.inj a i ha hi hsa hs (by rw[e,hj]))⟩
theorem RS (S:Bn):(els N S).Nodup:=List.nodup_range.filter _
theorem Xg.perm {φ:Nat→Nat} {S S':Bn} (h:Xg N N' φ S S'):(els N' S').Perm ((els N S).map φ):=by
 refine(List.perm_ext_iff_of_nodup (RS S') ?_).2 fun j=>?_
 ·unfold List.Nodup
  rw[List.pairwise_map]
  refine List.Pairwise.imp_of_mem ?_ (RS S)
  intro a b ha hb hne e
  exact hne (h.inj a b (Eo.1 ha).1 (Eo.1 hb).1 (Eo.1 ha).2 (Eo.1 hb).2 e)
 ·rw[Eo,List.mem_map]
  constructor
  ·rintro⟨hj,hs⟩
   obtain⟨i,hi,hsi,e⟩:=(h.im j hj).1 hs
   exact⟨i,Eo.2 ⟨hi,hsi⟩,e⟩
  ·rintro⟨i,hi,e⟩
   obtain⟨hi,hs⟩:=Eo.1 hi
   have hl:=h.lt i hi hs
   rw[e] at hl
   exact⟨hl,(h.im j hl).2 ⟨i,hi,hs,e⟩⟩
theorem Xg.card {φ:Nat→Nat} {S S':Bn} (h:Xg N N' φ S S'):card N' S'=card N S:=by
 rw[←Gs,←Gs,h.perm.length_eq,List.length_map]
def Goes (N:Nat) (φ:Nat→Nat) (g k:Int→Int) (S:Bn) (H W H' W':Nat→Int):Prop:=∀ i,i < N→S i=true→H' (φ i)=g (H i)∧W' (φ i)=g (W i)∧k (g (H i))=H i∧k (g (W i))=W i
theorem Jj {S:Bn} {f g:Nat→Int} (h:∀ i,i < N→S i=true→f i=g i):(els N S).map f=(els N S).map g:=
 List.map_congr_left fun i hi=>h i (Eo.1 hi).1 (Eo.1 hi).2
theorem Xg.ev {φ:Nat→Nat} {g k:Int→Int} {S S':Bn} (h:Xg N N' φ S S') (hg:Goes N φ g k S H W H' W'):Bp N H W S↔Bp N' H' W' S':=by
 have a1:((els N' S').map H').Perm (((els N S).map H).map g):=by
  refine(h.perm.map H').trans ?_
  rw[List.map_map,List.map_map,Jj (f:=H' ∘ φ) (g:=g ∘ H) fun i hi hs=>(hg i hi hs).1]
 have a2:((els N' S').map W').Perm (((els N S).map W).map g):=by
  refine(h.perm.map W').trans ?_
  rw[List.map_map,List.map_map,Jj (f:=W' ∘ φ) (g:=g ∘ W) fun i hi hs=>(hg i hi hs).2.1]
 have b1:(((els N S).map H).map g).map k=(els N S).map H:=by
  rw[List.map_map,List.map_map];exact Jj fun i hi hs=>(hg i hi hs).2.2.1
 have b2:(((els N S).map W).map g).map k=(els N S).map W:=by
  rw[List.map_map,List.map_map];exact Jj fun i hi hs=>(hg i hi hs).2.2.2
 rw[WS,WS]
 constructor
 ·intro he
  exact a1.trans ((he.map g).trans a2.symm)
 ·intro he
  have:=(a1.symm.trans (he.trans a2)).map k
  rwa [b1,b2] at this
theorem Goes.del {φ:Nat→Nat} {g k:Int→Int} {S:Bn} (h:Goes N φ g k S H W H' W') (i:Nat):Goes N φ g k (del S i) H W H' W':=fun a ha hd=>h a ha (Ki.1 hd).1
theorem AcF {φ:Nat→Nat} {g k:Int→Int} {S S':Bn} (h:Xg N N' φ S S') (hg:Goes N φ g k S H W H' W'):M N' H' W' S'=M N H W S:=by
 have h1 := WR (N := N) (N' := N') (H := H) (W := W) (H' := H') (W' := W') (fun c S S' => c = 0 ∧ Xg N N' φ S S' ∧ Goes N φ g k S H W H' W')
  (fun c S S' hP i hi hs=>.inl ⟨φ i,hP.2.1.lt i hi hs,(hP.2.1.im _ (hP.2.1.lt i hi hs)).2 ⟨i,hi,hs,rfl⟩,hP.1,hP.2.1.del hi hs,hP.2.2.del i⟩)
  (fun c S S' hP he=>(hP.2.1.ev hP.2.2).1 he) _ 0 S S' (Nat.le_refl _) ⟨rfl,h,hg⟩
 have h2 := WR (N := N') (N' := N) (H := H') (W := W') (H' := H) (W' := W) (fun c S' S => c = 0 ∧ Xg N N' φ S S' ∧ Goes N φ g k S H W H' W')
  (fun c S' S hP j hj hs => by
    obtain⟨i,hi,hsi,rfl⟩:=(hP.2.1.im j hj).1 hs
    exact .inl ⟨i,hi,hsi,hP.1,hP.2.1.del hi hsi,hP.2.2.del i⟩)
  (fun c S' S hP he=>(hP.2.1.ev hP.2.2).2 he) _ 0 S' S (Nat.le_refl _) ⟨rfl,h,hg⟩
 omega
theorem b1:∀ a b c:Bool,((a && b) && !c)=((a && !c) && b):=by decide
theorem b2:∀ a b c:Bool,((a && !b) && !c)=((a && !c) && !b):=by decide
end Go.MdM
set_option maxRecDepth 100000
namespace Go.MnOM
open Go.Sp Go.MnO Go.MdM
def Ow (h w:List Int):Bn:=fun i=>!(fn h i == fn w i)
theorem PQ {h w:List Int} (hl:w.length=h.length):∀ i,i < h.length→tb (bv h w) i=Ow h w i:=fun i hi=>by
 unfold Ow
 rw[Gw hi,Gw (by omega:i < w.length)]
 exact V6 h w i hi (by omega)
theorem Wl {h w:List Int} (hl:w.length=h.length):CY h w=Int.ofNat (card h.length (Ow h w)) - Int.ofNat (M h.length (fn h) (fn w) (Ow h w)):=by
 unfold CY Co
 rw[FN (PQ hl),G5 (PQ hl)]
theorem AcG {h w T U:List Int} (hl:w.length=h.length) (hl2:U.length=T.length) (hc:card T.length (Ow T U)=card h.length (Ow h w)) (hm:M T.length (fn T) (fn U) (Ow T U)=M h.length (fn h) (fn w) (Ow h w)):CY T U=CY h w:=by
 rw[Wl hl,Wl hl2,hc,hm]
structure UL (h w T U:List Int) (φ:Nat→Nat) (g k:Int→Int):Prop where
 lt:∀ i,i < h.length→φ i < T.length
 inj:∀ i j,i < h.length→j < h.length→φ i=φ j→i=j
 hT:∀ i,i < h.length→fn T (φ i)=g (fn h i)
 hU:∀ i,i < h.length→fn U (φ i)=g (fn w i)
 kh:∀ i,i < h.length→k (g (fn h i))=fn h i
 kw:∀ i,i < h.length→k (g (fn w i))=fn w i
 rest:∀ j,j < T.length→(∀ i,i < h.length→φ i≠j)→fn T j=fn U j
theorem UL.emb {h w T U:List Int} {φ:Nat→Nat} {g k:Int→Int} (L:UL h w T U φ g k):Xg h.length T.length φ (Ow h w) (Ow T U) where
 lt:=fun i hi _=>L.lt i hi
 inj:=fun i j hi hj _ _ e=>L.inj i j hi hj e
 im:=fun j hj=>by
  constructor
  ·intro hw
   apply Classical.byContradiction
   intro hn
   by_cases he:∃ i,i < h.length∧φ i=j
   ·obtain⟨i,hi,rfl⟩:=he
    refine hn ⟨i,hi,?_,rfl⟩
    unfold Ow at hw ⊢
    rw[L.hT i hi,L.hU i hi] at hw
    simp only[Bool.not_eq_true',beq_eq_false_iff_ne,ne_eq] at hw ⊢
    exact fun e=>hw (by rw[e])
   ·have:=L.rest j hj fun i hi e=>he ⟨i,hi,e⟩
    unfold Ow at hw
    simp[this] at hw
  ·rintro⟨i,hi,hs,rfl⟩
   unfold Ow at hs ⊢
   rw[L.hT i hi,L.hU i hi]
   simp only[Bool.not_eq_true',beq_eq_false_iff_ne,ne_eq] at hs ⊢
   intro e
   have:=congrArg k e
   rw[L.kh i hi,L.kw i hi] at this
   exact hs this
theorem UL.goes {h w T U:List Int} {φ:Nat→Nat} {g k:Int→Int} (L:UL h w T U φ g k) (S:Bn):Goes h.length φ g k S (fn h) (fn w) (fn T) (fn U):=fun i hi _=>⟨L.hT i hi,L.hU i hi,L.kh i hi,L.kw i hi⟩
theorem UL.M {h w T U:List Int} {φ:Nat→Nat} {g k:Int→Int} (L:UL h w T U φ g k):M T.length (fn T) (fn U) (Ow T U)=M h.length (fn h) (fn w) (Ow h w):=AcF L.emb (L.goes _)
theorem UL.CY {h w T U:List Int} {φ:Nat→Nat} {g k:Int→Int} (L:UL h w T U φ g k) (hl:w.length=h.length) (hl2:U.length=T.length):CY T U=CY h w:=AcG hl hl2 L.emb.card L.M
structure IB (K:Nat) (h w:List Int):Prop where
 k1:1≤K
 k5:K≤5
 n1:1≤h.length
 n10:h.length≤10
 len:w.length=h.length
 ih:MF K h
 iw:MF K w
 cnt:∀ v,h.count v=w.count v
theorem IB.chk {K:Nat} {h w:List Int} (t:IB K h w):chk K h w=0:=by
 unfold MnOM.chk
 have e:vE (K:Int).toNat h w:=fun x _=>t.cnt x
 rw[Hw ⟨by have:=t.k1;omega,by have:=t.k5;omega⟩,Iy (by have:=t.n1;omega),Iy (by have:=t.n10;omega),Hw t.len,Hw ⟨t.ih,t.iw⟩,Hw e]
theorem IB.ok {K:Nat} {h w:List Int} (t:IB K h w):Ok K h w:=iG t.chk
theorem IB.map {K:Nat} {h w:List Int} (t:IB K h w) {g:Int→Int} (hg:∀ x:Int,0≤x∧x < K→0≤g x∧g x < K):IB K (h.map g) (w.map g) where
 k1:=t.k1
 k5:=t.k5
 n1:=by rw[List.length_map];exact t.n1
 n10:=by rw[List.length_map];exact t.n10
 len:=by rw[List.length_map,List.length_map];exact t.len
 ih:=fun x hx=>by obtain⟨y,hy,rfl⟩:=List.mem_map.1 hx;exact hg y (t.ih y hy)
 iw:=fun x hx=>by obtain⟨y,hy,rfl⟩:=List.mem_map.1 hx;exact hg y (t.iw y hy)
 cnt:=fun v=>((List.perm_iff_count.2 t.cnt).map g).count_eq v
theorem OW {l:List Int} {r:Nat} (hr:r < l.length) (v:Int):l.count v=(l.eraseIdx r).count v+if l[r]=v then 1 else 0:=by
 have e:=List.take_append_drop r l
 rw[List.drop_eq_getElem_cons hr] at e
 have e2:l.count v=(l.take r++l[r]::l.drop (r+1)).count v:=by rw[e]
 rw[e2,List.eraseIdx_eq_take_drop_succ,List.count_append,List.count_append,List.count_cons]
 simp
 omega
theorem IB.erase {K:Nat} {h w:List Int} (t:IB K h w) {r:Nat} (hr:r < h.length) (he:fn h r=fn w r) (h2:1 < h.length):IB K (h.eraseIdx r) (w.eraseIdx r) where
 k1:=t.k1
 k5:=t.k5
 n1:=by rw[List.length_eraseIdx,if_pos hr];omega
 n10:=by rw[List.length_eraseIdx,if_pos hr];have:=t.n10;omega
 len:=by have:=t.len;rw[List.length_eraseIdx,List.length_eraseIdx,if_pos hr,if_pos (by omega)];omega
 ih:=fun x hx=>t.ih x (List.mem_of_mem_eraseIdx hx)
 iw:=fun x hx=>t.iw x (List.mem_of_mem_eraseIdx hx)
 cnt:=fun v=>by
  have hw:r < w.length:=by have:=t.len;omega
  have e1:=OW hr v
  have e2:=OW hw v
  rw[Gw hr,Gw hw] at he
  have:=t.cnt v
  rw[he] at e1
  omega
end Go.MnOM
set_option maxRecDepth 100000
set_option maxHeartbeats 4000000
namespace Go.MnOM
open Go.Sp Go.MnO Go.MdM Go.MdV
theorem q16 (k:Nat) (args:List Value):Eb (k+1) 16 args=uW (Eb k) L args:=by kernel_rfl
theorem AdW (pu:Af) (fl fl':Nat) (k:Int) (h w:List Int):uW pu L [tr fl fl' k h w]=bJ pu L k (sl fl h) (sl fl' w):=by kernel_rfl
theorem nt0:nt (Bd (0:Int) 0)=false:=rfl
theorem p16 (n fl fl':Nat) {K:Nat} {h w:List Int} (t:IB K h w):Eb (n+30) 16 [tr fl fl' K h w]=some (.tuple ⟨[Sl.v 1 (LL 0 (C8 h w)),I 0]⟩):=by
 rw[q16,AdW]
 have o:=t.ok
 have e1:=p47 (n+27) fl fl' K h w
 rw[t.chk] at e1
 have e2:=p48 fl fl' K h w o.n10 o.len o.kh o.kw (n+2) (Ov o.len t.ih t.iw o.ev)
 unfold tr S at e1 e2
 unfold bJ
 simp -implicitDefEqProofs only [e1,e2,Ac,BP,nt0,AA,Dc]
theorem Ox {y:Int} (h:0≤y∧y < 256) {m:Nat} (hm:0 < m):∃ A,A < m∧Int.tmod (Aj .i64 y) (.ofNat m) = .ofNat A:=by
 obtain⟨a,rfl⟩:=Int.eq_ofNat_of_zero_le h.1
 rw[Oe _ (by omega) (by omega)]
 exact⟨a % m,Nat.mod_lt _ hm,rfl⟩
theorem nz {m:Nat} (hm:0 < m):nt (Bd (Int.ofNat m) 0)=true:=by
 have:Bd (Int.ofNat m) 0=false:=by rw[Lr];simp;omega
 rw[this];rfl
theorem XN (l:List Int):Au Ah (l.map I)=true:=by rw[Bh,kL]
theorem iI (l:List Int) (x:Int):Br (Am 0 (l.map I)) [I x]=(l++[x]).map I:=by simp
theorem dQ {a b:Nat} (h:a < b):an (Nat.blt a b) true=true:=by rw[CF,blt_eq,decide_eq_true h];rfl
theorem ZC {a:Nat} (h:a≠0):Nat.beq a 0=false:=by
 cases a with
 | zero=>exact absurd rfl h
 | succ a=>rfl
section
variable (pu:Af) (m:Nat) (q:List Value) (x:Nat→Int) (hq:∀ i,i < 22→AL q i=some (.int .u8 (x i))) (hc:Au Ah q=true) (hx:∀ i,0≤x i∧x i < 256)
include hq hc hx
theorem Qp {K N:Nat} (hK:0 < K) (hN:N≤9):∀ (d w i:Nat) (W:List Int),i+d=N→d < w→W.length=i→MF K W →
 ∃ W',W'.length=N∧MF K W'∧QH pu m w W.length (2*W.length) (.ofNat N) (.ofNat i) q 0 (.ofNat K) W.length (2*W.length) (W.map I) (W.map I)=QG pu m W'.length (2*W'.length) q 0 (.ofNat K) W'.length (2*W'.length) (W'.map I) (W'.map I)
 | _,0,_,_,_,h,_,_=>by omega
 | 0, w + 1, i, W, hi, _, hW, hk => by
  refine⟨W,by omega,hk,?_⟩
  show Ph pu m (QH pu m w) W.length (2*W.length) (.ofNat N) (.ofNat i) q 0 (.ofNat K) W.length (2*W.length) (W.map I) (W.map I)=_
  unfold Ph
  rw[hc,XN,Ak,Ak,Ak,FD (by omega:¬ i < N),AA]
 | d + 1, w + 1, i, W, hi, hw, hW, hk => by
  have h1:i < N:=by omega
  obtain⟨A,hA,eA⟩:=Ox (hx (2+i)) hK
  have hg:AL q (2+i*1)=some (.int .u8 (x (2+i))):=by rw[Nat.mul_one];exact hq _ (by omega)
  have gW:=iB W (by omega)
  have hget:AL ((W++[Int.ofNat A]).map I) (0+i*1)=some (I (Int.ofNat A)):=by
   rw[BZ,Nat.zero_add,Nat.mul_one,Aja _ i (by simp;omega)]
   simp[←hW]
  obtain⟨W',w1,w2,w3⟩:=Qp hK hN d w (i+1) (W++[Int.ofNat A]) (by omega) (by omega) (by simp[hW]) (fun z hz=>by
   rcases List.mem_append.1 hz with hz | hz
   ·exact hk z hz
   ·rw[List.mem_singleton.1 hz];exact⟨Int.natCast_nonneg A,Int.ofNat_lt.2 hA⟩)
  refine⟨W',w1,w2,?_⟩
  rw[←w3]
  show Ph pu m (QH pu m w) W.length (2*W.length) (.ofNat N) (.ofNat i) q 0 (.ofNat K) W.length (2*W.length) (W.map I) (W.map I)=_
  unfold Ph
  simp only[hc,XN,Ak,FL h1,Cx,Ac,show Nat.blt i 10=true from by rw[blt_eq];simp;omega,hg,show Bi .u8 (.int .u8 (x (2+i)))=some (x (2+i)) from rfl,nz hK,eA,gW,iI,dQ (show i < W.length+1 from by omega),hget,BP,DC i (by omega),AA,Nat.add_zero,List.length_append,List.length_singleton]
theorem UM {K:Nat} (wn wc:Nat) (wq:List Value) (hwq:Au Ah wq=true):∀ (d w i c:Nat) (E H:List Int),E.length=d→d < w→E.length+i≤9→H.length≤i→E.length≤c / 2 →
 ∃ H',(H++E).Perm H'∧QF pu m w E.length c (.ofNat i) q 0 (.ofNat K) H.length (2*H.length) wn wc (E.map I) (H.map I) wq=QE pu m 0 (.ofNat K) H'.length (2*H'.length) wn wc (H'.map I) wq
 | _,0,_,_,_,_,_,h,_,_,_=>by omega
 | 0, w + 1, i, c, E, H, hE, _, _, _, _ => by
  obtain rfl:=List.eq_nil_of_length_eq_zero hE
  refine⟨H,by simp,?_⟩
  show Pg pu m (QF pu m w) 0 c (.ofNat i) q 0 (.ofNat K) H.length (2*H.length) wn wc ([].map I) (H.map I) wq=_
  unfold Pg
  rw[hc,XN,hwq,Ak,Ak,XN,Ak,Ak,show AY 0 (Int.ofNat 0)=false from rfl,AA]
 | d + 1, w + 1, i, c, E, H, hE, hw, hi, hH, hcc => by
  have hn:0 < E.length:=by omega
  obtain⟨kk,hkk,ek⟩:=Ox (hx (12+i)) hn
  have hg:AL q (12+i*1)=some (.int .u8 (x (12+i))):=by rw[Nat.mul_one];exact hq _ (by omega)
  have gH:=iB H (by omega)
  have hget:AL (E.map I) (kk*1)=some (I E[kk]):=by rw[BZ,Nat.mul_one,Aja E kk hkk]
  have hw1:Aj .i64 (Int.add (Int.ofNat kk) 1)=Int.ofNat (kk+1):=DC kk (by omega)
  have t1:Aq (kk*1) (Am 0 (E.map I))=(E.take kk).map I:=by rw[Cg,Bz,List.drop_zero,Nat.mul_one,List.map_take]
  have t1':Aq (kk*1) ((E.take kk).map I)=(E.take kk).map I:=by rw[Cg,Nat.mul_one,List.take_of_length_le (by simp;omega)]
  have t2:Aq ((E.length - (kk+1))*1) (Am ((kk+1)*1) (E.map I))=(E.drop (kk+1)).map I:=by
   rw[Cg,Bz,Nat.mul_one,Nat.mul_one,List.map_drop,List.take_of_length_le (by simp)]
  have t2':Aq ((E.length - (kk+1))*1) ((E.drop (kk+1)).map I)=(E.drop (kk+1)).map I:=by rw[Cg,Nat.mul_one,List.take_of_length_le (by simp)]
  have hlen:(E.take kk++E.drop (kk+1)).length=E.length - 1:=by simp;omega
  have hperm:(H++E).Perm ((H++[E[kk]])++(E.take kk++E.drop (kk+1))):=by
   have e:E=E.take kk++E[kk]::E.drop (kk+1):=by rw[←List.drop_eq_getElem_cons hkk,List.take_append_drop]
   rw[List.append_assoc]
   refine List.Perm.append_left H ?_
   have:(E.take kk++E[kk]::E.drop (kk+1)).Perm (E[kk]::(E.take kk++E.drop (kk+1))):=List.perm_middle
   rw[←e] at this
   exact this
  have ih:=fun c' (h:E.length - 1≤c' / 2)=>UM (K:=K) wn wc wq hwq d w (i+1) c' (E.take kk++E.drop (kk+1)) (H++[E[kk]]) (by omega) (by omega) (by omega) (by simp;omega) (by rw[hlen];exact h)
  have hL:(H++[E[kk]]).length=H.length+1:=by simp
  show ∃ H',_∧Pg pu m (QF pu m w) E.length c (.ofNat i) q 0 (.ofNat K) H.length (2*H.length) wn wc (E.map I) (H.map I) wq=_
  unfold Pg
  simp only[hc,hwq,XN,Ak,show AY 0 (Int.ofNat E.length)=true from FL hn,Cx,Ac,show Nat.blt i 10=true from by rw[blt_eq];simp;omega,hg,show Bi .u8 (.int .u8 (x (12+i)))=some (x (12+i)) from rfl,nz hn,ek,dQ hkk,hget,BP,gH,iI,show Nat.ble kk (c / 2)=true from by rw[ble_eq];simp;omega,hw1,show Nat.ble (kk+1) E.length=true from by rw[ble_eq];simp;omega,show Nat.ble (kk*1) (len (E.map I))=true from by rw[ble_eq,AV];simp;omega,show Nat.ble ((kk+1)*1+(E.length - (kk+1))*1) (len (E.map I))=true from by rw[ble_eq,AV];simp;omega,t1,t2,t1',t2',DC i (by omega),AA,Nat.add_zero,Nat.zero_add]
  by_cases k0:kk=0
  ·by_cases r0:E.length - (kk+1)=0
   ·obtain⟨H',p1,p2⟩:=ih 1 (by omega)
    refine⟨H',hperm.trans p1,?_⟩
    have e0:E.take kk++E.drop (kk+1)=[]:=List.eq_nil_of_length_eq_zero (by omega)
    rw[e0,hL] at p2
    rw[←p2,show Nat.beq kk 0=true from by rw[k0];rfl,show Nat.beq (E.length - (kk+1)) 0=true from by rw[r0];rfl,Ak,Ak]
    rfl
   ·obtain⟨H',p1,p2⟩:=ih (2*(E.length - (kk+1))) (by omega)
    refine⟨H',hperm.trans p1,?_⟩
    rw[hlen,hL] at p2
    have e0:E.take kk=[]:=by rw[k0];rfl
    rw[e0,List.nil_append,show E.length - 1=E.length - (kk+1) from by omega] at p2
    rw[←p2,show Nat.beq kk 0=true from by rw[k0];rfl,ZC (show E.length - (kk+1)≠0 from by omega),Ak,AA,JN (by omega),Ak]
  ·by_cases r0:E.length - (kk+1)=0
   ·obtain⟨H',p1,p2⟩:=ih (2*kk) (by omega)
    refine⟨H',hperm.trans p1,?_⟩
    rw[hlen,hL] at p2
    have e0:E.drop (kk+1)=[]:=List.drop_eq_nil_of_le (by omega)
    rw[e0,List.append_nil,show E.length - 1=kk from by omega] at p2
    rw[←p2,ZC (show kk≠0 from by omega),show Nat.beq (E.length - (kk+1)) 0=true from by rw[r0];rfl,Ak,AA,JN (by omega),Ak,Ak]
   ·obtain⟨H',p1,p2⟩:=ih (2*(kk+(E.length - (kk+1)))) (by omega)
    refine⟨H',hperm.trans p1,?_⟩
    rw[hlen,hL] at p2
    have ea:Br (Am 0 ((E.take kk).map I)) ((E.drop (kk+1)).map I)=(E.take kk++E.drop (kk+1)).map I:=by simp
    have es:Au D6 ((E.drop (kk+1)).map I)=true:=by
     rw[Bh,List.all_eq_true]
     intro v hv
     obtain⟨z,_,rfl⟩:=List.mem_map.1 hv
     rfl
    have hk1:(E.take kk).length=kk:=by simp;omega
    have gg:GV 1 8 kk (2*kk) (E.length - (kk+1)) ((E.take kk).map I)=true:=by
     have:=WP 1 8 kk (E.length - (kk+1)) ((E.take kk).map I) (JN (by omega)) (by omega) (by simp;omega)
     exact this
    rw[show E.length - 1=kk+(E.length - (kk+1)) from by omega] at p2
    rw[←p2,ZC (show kk≠0 from by omega),ZC (show E.length - (kk+1)≠0 from by omega),AA,AA,JN (by omega),Ak,es,gg,show an true true=true from rfl,Ak,ea,XN,Ak]
end
end Go.MnOM
set_option maxRecDepth 100000
set_option maxHeartbeats 4000000
namespace Go.MnOM
open Go.Sp Go.MnO Go.MdM Go.MdV
theorem q21 (k:Nat) (args:List Value):Eb (k+1) 21 args=uX (Eb k) L args:=by kernel_rfl
theorem iJ (A:Nat) (hA:A < 1000):Aj .i64 (Int.add 1 (Int.ofNat A))=Int.ofNat (A+1):=by
 have e:Int.add 1 (Int.ofNat A)=((A+1:Nat):Int):=by show (1:Int)+(A:Int)=_;omega
 rw[e];exact Oe _ (by omega) (by omega)
theorem dR (n:Nat) (q:List Value) (x:Nat→Int) (hl:len q=22) (hq:∀ i,i < 22→AL q i=some (.int .u8 (x i))) (hc:Au Ah q=true) (hx:∀ i,0≤x i∧x i < 256) :
 ∃ K h w,Eb (n+1) 21 [.agg ⟨q⟩,I 6,I 4]=some (tr 0 0 (K:Nat) h w)∧IB K h w∧h.length≤6∧K≤4:=by
 rw[q21]
 obtain⟨A,hA,eA⟩:=Ox (hx 1) (show 0 < 6 from by omega)
 obtain⟨B,hB,eB⟩:=Ox (hx 0) (show 0 < 4 from by omega)
 obtain⟨W,w1,w2,w3⟩:=Qp (Eb n) L q x hq hc hx (K:=B+1) (N:=A+1) (by omega) (by omega) (A+1) L 0 [] (by omega) (by show _ < 1000000;omega) rfl (fun z hz=>by cases hz)
 obtain⟨H,p1,p2⟩:=UM (Eb n) L q x hq hc hx (K:=B+1) W.length (2*W.length) (W.map I) (XN W) W.length L 0 (2*W.length) W [] rfl (by show _ < 1000000;omega) (by omega) (Nat.le_refl _) (by omega)
 rw[List.nil_append] at p1
 have hHl:=p1.length_eq
 refine⟨B+1,H,W,?_,⟨by omega,by omega,by omega,by omega,by omega,fun z hz=>w2 z (p1.symm.subset hz),w2,fun v=>(p1.count_eq v).symm⟩,by omega,by omega⟩
 have e0:uX (Eb n) L [.agg ⟨q⟩,I 6,I 4]=Yj (Eb n) L q 6 4:=by
  show bb (an (Nat.beq (len q) 22) (Au Ah q)) (Yj (Eb n) L q 6 4) none=_
  rw[hl,hc];rfl
 rw[e0]
 unfold Yj
 simp only[hc,Ak,hq 0 (by omega),hq 1 (by omega),Ac,show Bi .u8 (.int .u8 (x 0))=some (x 0) from rfl,show Bi .u8 (.int .u8 (x 1))=some (x 1) from rfl,show nt (Bd (4:Int) 0)=true from rfl,show nt (Bd (6:Int) 0)=true from rfl,show (6:Int)=Int.ofNat 6 from rfl,show (4:Int)=Int.ofNat 4 from rfl,eA,eB,iJ A (by omega),iJ B (by omega)]
 refine Eq.trans w3 ?_
 unfold QG
 rw[hc,XN,Ak,Ak,Ak]
 refine Eq.trans p2 ?_
 unfold QE
 simp only[XN,Ak,Yu H H.length rfl,Yu W W.length rfl,show an (Nat.ble (0+H.length*1) (len (H.map I))) true=true from by rw[CF,ble_eq,AV];simp,show an (Nat.ble (0+W.length*1) (len (W.map I))) true=true from by rw[CF,ble_eq,AV];simp]
 rfl
theorem Jh {n:Int} (h:(Lit.int .u8 n).wf=true):0≤n∧n < 256:=by
 simp only[Lit.wf,Bool.and_eq_true,decide_eq_true_eq] at h
 have h1:(0:Int)≤n:=h.1
 have h2:n≤(255:Int):=h.2
 exact⟨h1,by omega⟩
theorem AdX {l:List Int} (h:∀ z∈l,0≤z∧z < 256) (i:Nat):0≤l.getD i 0∧l.getD i 0 < 256:=by
 rw[List.getD_eq_getElem?_getD]
 cases e:l[i]? with
 | none=>exact⟨by decide,by decide⟩
 | some z=>exact h z (List.mem_of_getElem? e)
end Go.MnOM
set_option maxRecDepth 100000
namespace Go.RgP
open Go Go.Sp

abbrev IV (z:Int):Value:=.int .i64 z
def Oy (ps:List (Nat×Nat)) (i:Nat):List EO:=(match ps with | []=>[] | (d,c)::r=>⟨IV (Int.ofNat d),IV (Int.ofNat c),i⟩::Oy r (i+1))
def FK (ps:List (Nat×Nat)):List EO:=Oy ps 0
def look (d:Nat):List (Nat×Nat)→Nat
 | []=>0
 | (k,c)::r=>bif Nat.beq d k then c else look d r
theorem Oz:∀ (ps:List (Nat×Nat)) (i:Nat),Au F4 (Oy ps i)=true
 | [],_=>rfl
 | (d, c) :: r, i => by
  have e:=Oz r (i+1)
  show an (F4 ⟨IV (Int.ofNat d),IV (Int.ofNat c),i⟩) (Au F4 (Oy r (i+1)))=true
  rw[e];rfl
theorem DL (ps:List (Nat×Nat)):Au F4 (FK ps)=true:=Oz ps 0
def place (d:Nat):List (Nat×Nat)→Option (Nat×Nat)
 | []=>none
 | (k,c)::r=>bif Nat.beq d k then some (0,c) else (place d r).map fun p=>(p.1+1,p.2)
theorem Xh (a b:Int):IG (IV a) (IV b)=some (Bd a b):=rfl
theorem dS (a b:Nat):Bd (Int.ofNat a) (Int.ofNat b)=Nat.beq a b:=rfl
theorem OX (d : Nat) : ∀ (ps : List (Nat × Nat)) (i j : Nat), GD (IV (Int.ofNat d)) (Oy ps i) j = some ((place d ps).map fun p => (j + p.1, IV (Int.ofNat p.2)))
 | [],_,_=>rfl
 | (k, c) :: r, i, j => by
  show oo (IG (IV (Int.ofNat d)) (IV (Int.ofNat k))) none (fun b=>bb b (some (some (j,IV (Int.ofNat c)))) (GD (IV (Int.ofNat d)) (Oy r (i+1)) (j+1)))=_
  rw[Xh,Ac,dS]
  show _=some (Option.map _ (bif Nat.beq d k then some (0,c) else (place d r).map fun p=>(p.1+1,p.2)))
  cases hb:Nat.beq d k with
  | true=>rw[Ak];rfl
  | false =>
   rw[AA,OX d r (i+1) (j+1)]
   show some _=some (Option.map _ ((place d r).map fun p=>(p.1+1,p.2)))
   cases place d r with
   | none=>rfl
   | some p=>simp;omega
theorem ML (d:Nat) (ps:List (Nat×Nat)):GD (IV (Int.ofNat d)) (FK ps) 0=some ((place d ps).map fun p=>(p.1,IV (Int.ofNat p.2))):=by
 unfold FK
 rw[OX]
 cases place d ps with
 | none=>rfl
 | some p=>simp
def left (n:Nat) (seen:List Nat):List Nat:=(List.range n).filter fun i=>decide (i ∉ seen)
end Go.RgP
