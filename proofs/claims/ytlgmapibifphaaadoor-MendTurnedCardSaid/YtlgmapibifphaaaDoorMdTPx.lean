/- Made from wip. -/
import Derived.Test.YtlgmapibifphaaaDoorMdTLaw11x

set_option maxRecDepth 100000
namespace Go.MdTM
open Go.Sp Go.MdT Go.MdM

section
variable (h w:List Int) (s0:Nat) (G:List (List Nat)) (hN:h.length≤10) (hw:w.length=h.length) (hG:wJ h w s0 G) (hP0:PL h s0≠[])
include hN hw
include hG hP0
end

theorem R9:∀ (h w:List Int) (i:Nat) (hi:i < h.length) (hj:i < w.length),(bv h w).testBit i = !(h[i] == w[i])
 | [],_,i,hi,_=>by simp at hi
 | _::_,[],i,_,hj=>by simp at hj
 | x :: h, y :: w, 0, _, _ => by
  rw[Nat.testBit_zero]
  simp only[bv,List.getElem_cons_zero]
  by_cases e:x=y <;> simp[e] <;> omega
 | x :: h, y :: w, i + 1, hi, hj => by
  rw[Nat.testBit_succ]
  simp only[bv,List.getElem_cons_succ]
  rw[show ((if x=y then 0 else 1)+2*bv h w) / 2=bv h w by split <;> omega]
  exact R9 h w i (by simpa using hi) (by simpa using hj)
theorem Nf (l : List Int) (x : Int) : ∀ (m : Nat), m ≤ l.length → (l.take m).count x = cn m (fun _ => true) (fn l) x
 | 0,_=>by simp[cn]
 | m + 1, h => by
  rw[JP (by omega),KW,Nf l x m (by omega),Eo (by omega)]
  simp
theorem QL {K:Nat} {h w:List Int} (hw:w.length=h.length) (hk:I9 K h) (hkw:I9 K w) (he:Yh K h w):Bp h.length (fn h) (fn w) (tb (bv h w)):=by
 intro x
 have split:∀ f:Nat→Int,cn h.length (fun _=>true) f x=cn h.length (tb (bv h w)) f x+cn h.length (fun i=>!(tb (bv h w) i)) f x:=fun f=>
  Hy f x (fun i _=>by cases tb (bv h w) i <;> rfl) (fun i _ g=>by cases hb:tb (bv h w) i <;> simp[hb] at g)
 have same:cn h.length (fun i=>!(tb (bv h w) i)) (fn h) x=cn h.length (fun i=>!(tb (bv h w) i)) (fn w) x:=by
  unfold cn
  apply List.countP_congr
  intro i hi
  have hi:i < h.length:=by simpa using hi
  have hj:i < w.length:=by omega
  have:=R9 h w i hi hj
  rw[Eo hi,Eo hj]
  show (!(bv h w).testBit i && _)=true↔(!(bv h w).testBit i && _)=true
  rw[this]
  by_cases e:h[i]=w[i] <;> simp[e]
 have all:cn h.length (fun _=>true) (fn h) x=cn h.length (fun _=>true) (fn w) x:=by
  rw[←Nf h x h.length (Nat.le_refl _),←Nf w x h.length (by omega),List.take_length,←hw,List.take_length]
  by_cases hx:0≤x∧x < K
  ·obtain⟨j,rfl⟩:∃ j:Nat,x=j:=⟨x.toNat,by omega⟩
   exact he j (by omega)
  ·rw[List.count_eq_zero.2 (fun hm=>hx (hk _ hm)),List.count_eq_zero.2 (fun hm=>hx (hkw _ hm))]
 have s1:=split (fn h)
 have s2:=split (fn w)
 omega
noncomputable def C8 (h w:List Int):List (List Nat):=gr h.length (fn h) (fn w) h.length (tb (bv h w))
structure Ok (k:Int) (h w:List Int):Prop where
 n10:h.length≤10
 n1:1≤h.length
 len:w.length=h.length
 kh:RX h
 kw:RX w
 k1:1≤k∧k≤5
 kk:I9 k h∧I9 k w
 ev:Yh k.toNat h w
 dv:BI h.length (fn h) (fn w) (tb (bv h w)) (C8 h w)
 ln:(C8 h w).length=M h.length (fn h) (fn w) (tb (bv h w))
 fst:∀ L,BI h.length (fn h) (fn w) (tb (bv h w)) L→L=C8 h w∨L.length < M h.length (fn h) (fn w) (tb (bv h w))∨(L.length=M h.length (fn h) (fn w) (tb (bv h w))∧xO (C8 h w) L)
theorem Iz (N:Nat) (S:Bn):card N S≤N:=by unfold card;exact Nat.le_trans List.countP_le_length (by simp)
theorem wK {k:Int} {h w:List Int} (hc:chk k h w=0):Ok k h w:=by
 unfold chk at hc
 by_cases c1:1≤k∧k≤5
 ·rw[Gn c1] at hc
  by_cases c2:h.length=0
  ·rw[Gn c2] at hc;cases hc
  ·rw[Gp c2] at hc
   by_cases c3:10 < h.length
   ·rw[Gn c3] at hc;cases hc
   ·rw[Gp c3] at hc
    by_cases c4:w.length=h.length
    ·rw[Gn c4] at hc
     by_cases c5:I9 k h∧I9 k w
     ·rw[Gn c5] at hc
      by_cases c6:Yh k.toNat h w
      ·have hK:((k.toNat:Nat):Int)=k:=by omega
       have k1:I9 (k.toNat:Nat) h:=by rw[hK];exact c5.1
       have k2:I9 (k.toNat:Nat) w:=by rw[hK];exact c5.2
       have he:=QL c4 k1 k2 c6
       obtain⟨g1,g2,g3⟩:=vZ h.length (tb (bv h w)) (Iz _ _) he
       exact⟨by omega,by omega,c4,fun x hx=>⟨(c5.1 x hx).1,by have:=(c5.1 x hx).2;omega⟩,fun x hx=>⟨(c5.2 x hx).1,by have:=(c5.2 x hx).2;omega⟩,c1,c5,c6,g1,g2,g3⟩
      ·rw[Gp c6] at hc;cases hc
     ·rw[Gp c5] at hc;cases hc
    ·rw[Gp c4] at hc;cases hc
 ·rw[Gp c1] at hc;cases hc
end Go.MdTM
set_option maxRecDepth 100000
namespace Go.MdTM
open Go.Sp Go.MdT Go.MdM

noncomputable def hb (h w:List Int) (a b:Nat):Bool:=AY (CY (swp h a b) w) (CY h w)
noncomputable def Uq (h w:List Int) (a:Nat):Nat→Nat→List (Nat×Nat)
 | 0,_=>[]
 | f+1,b=>(bif hb h w a b then [(a,b)] else [])++Uq h w a f (b+1)
def pq (P:List (Nat×Nat)):List Value:=P.flatMap fun p=>[I (Int.ofNat p.1),I (Int.ofNat p.2)]
def ps (P:List (Nat×Nat)):Sl:=⟨P.length,0,pq P⟩
section
variable (n f1 f2:Nat) (k:Int) (h w:List Int) (ho:Ok k h w)
include ho
end
section
variable (pu:Af) (n:Nat) (k:Int) (s t:Sl) (e12:pu 12 []=some (Value.bool true))
include e12
end
theorem e12 (n:Nat):Fh (n+1) 12 []=some (Value.bool true):=by kernel_rfl
end Go.MdTM
set_option maxRecDepth 100000
namespace Go.MdM
theorem Sa {α β:Type} {f g:α→Option β}:∀ (l:List α),(∀ a∈l,f a=g a)→l.findSome? f=l.findSome? g
 | [],_=>rfl
 | a::l,h=>by rw[List.findSome?_cons,List.findSome?_cons,h a (by simp),Sa l (fun b hb=>h b (by simp[hb]))]
variable {N:Nat} {H W:Nat→Int}
theorem Jw {Q:Bn→Prop} (hQ:∀ A B:Bn,(∀ i,i < N→A i=B i)→(Q A↔Q B)) (f:Nat):∀ (k:Nat) (A B:Bn) (last:Nat),(∀ i,i < N→A i=B i)→K7 N H W Q f k A last=K7 N H W Q f k B last
 | 0,_,_,_,_=>rfl
 | k + 1, A, B, last, h => by
  unfold K7
  have this:(W last=H f∧Q A)↔(W last=H f∧Q B):=and_congr Iff.rfl (hQ A B h)
  have hf:(els N B).findSome? (fun i=>if H i=W last then (K7 N H W Q f k (del A i) i).map (i :: ·) else none)=(els N B).findSome? (fun i=>if H i=W last then (K7 N H W Q f k (del B i) i).map (i :: ·) else none):=Sa _ (fun i _=>by rw[Jw hQ f k _ _ i (K6 h i)])
  rw[Jv h,hf]
  by_cases hc:W last=H f∧Q A
  ·rw[if_pos hc,if_pos (this.1 hc)]
  ·rw[if_neg hc,if_neg (fun g=>hc (this.2 g))]
theorem QM {Q:Bn→Prop} (f:Nat):∀ (k k':Nat) (R:Bn) (last:Nat),card N R < k→card N R < k'→K7 N H W Q f k R last=K7 N H W Q f k' R last
 | 0,_,_,_,h,_=>by omega
 | _+1,0,_,_,_,h=>by omega
 | k + 1, k' + 1, R, last, h1, h2 => by
  unfold K7
  have hf:(els N R).findSome? (fun i=>if H i=W last then (K7 N H W Q f k (del R i) i).map (i :: ·) else none)=(els N R).findSome? (fun i=>if H i=W last then (K7 N H W Q f k' (del R i) i).map (i :: ·) else none):=Sa _ (fun i hi=>by
   obtain⟨a,b⟩:=DT.1 hi
   have:=Fp a b
   rw[QM f k k' (del R i) i (by omega) (by omega)])
  rw[hf]
end Go.MdM
namespace Go.MdTM
open Go.Sp Go.MdT Go.MdM

theorem p72 (n:Nat) (bg:List Nat):Fh (n+1) 72 [S 0 (nI bg)]=some (S 1 (nI bg)):=by
 have e:KY 1 (sl 0 (nI bg))=sl 1 (nI bg):=by
  unfold KY
  rw[show Nat.beq (sl 0 (nI bg)).fl 2=false from rfl,AA]
  have t:=takeN bg
  rw[I4,GX,Gu,Nat.zero_mul,Nat.sub_zero,t];unfold sl;rw[Gu]
 refine Eq.trans (b:=WM (Fh n) 1000000 (sl 0 (nI bg))) (by kernel_rfl) ?_
 unfold WM
 rw[e];rfl
theorem iZ (r:List Nat) (a:Nat):Br ((nI r).map I) [I (Int.ofNat a)]=(nI (r++[a])).map I:=by
 rw[BH,iU,List.map_append];rfl
def Qr (h w:List Int) (r:Nat):Bn→Prop:=fun R=>Bp h.length (fn h) (fn w) R∧M h.length (fn h) (fn w) R=r
theorem QN (h w:List Int) (r:Nat) (A B:Bn) (g:∀ i,i < h.length→A i=B i):Qr h w r A↔Qr h w r B:=by
 unfold Qr;rw[KT g,HV g]
def Pn (bg:List Nat):Option (List Nat)→Value
 | some e=>S 0 (nI (bg++e))
 | none=>Sl.v 1 ⟨0,2,[]⟩
noncomputable def fd (h w:List Int) (r f d:Nat) (R:Bn) (last:Nat):Nat→Option (List Nat):=fun i=>if fn h i=fn w last then (K7 h.length (fn h) (fn w) (Qr h w r) f d (del R i) i).map (i :: ·) else none
section
variable (fl fl':Nat) (k:Int) (h w:List Int) (hN:h.length≤10) (hw:w.length=h.length) (hk:RX h) (hkw:RX w)
def Dn (r n d:Nat):Prop:=∀ s bg f last es c,card h.length (tb s) < d→s < 2 ^ h.length→Gm h w es→bg.length+d≤900→f < h.length→last < h.length→bg[0]?=some f→bg[bg.length - 1]?=some last →
 ∃ es' c',Fh n 10680 [ptr,S 0 (nI bg),U s,I (Int.ofNat r),K9 fl fl' k h w,mp es c]=some (.tuple ⟨[Pn bg (K7 h.length (fn h) (fn w) (Qr h w r) f d (tb s) last),K9 fl fl' k h w,mp es' c']⟩)∧Gm h w es'
include hN hw
theorem jA (r n d s:Nat) (bg:List Nat) (f last:Nat) (hs:s < 2 ^ h.length) (hd:card h.length (tb s) < d+1) (hbg:bg.length+d < 900) (hf:f < h.length) (hl:last < h.length) (hb0:bg[0]?=some f) (ih0:Dn fl fl' k h w r (n+1) d):∀ (g i c:Nat) (es:List EO),(eL s).length - i < g→i≤(eL s).length→Gm h w es →
 ∃ es' c', G9 (Fh (n + 1)) 1000000 g (sl 0 (nI bg)) (Int.ofNat s) (Int.ofNat r) (Int.ofNat last) (sl 0 (eL s)) (Int.ofNat (eL s).length) (Int.ofNat i) k (sl fl h) (sl fl' w) es c =
  some (.tuple ⟨[Pn bg (((els h.length (tb s)).drop i).findSome? (fd h w r f d (tb s) last)),K9 fl fl' k h w,mp es' c']⟩)∧Gm h w es':=by
 intro g
 have heL:=VZ hN hs
 have hlen:(eL s).length=(els h.length (tb s)).length:=by rw[heL,List.length_map]
 have hcd:(els h.length (tb s)).length≤10:=by
  rw[FM];unfold card;exact Nat.le_trans List.countP_le_length (by simpa using hN)
 induction g with
 | zero=>intro i c es hi;omega
 | succ g ih =>
  intro i c es hi hil hg
  show ∃ es' c',Je (Fh (n+1)) 1000000 (G9 (Fh (n+1)) 1000000 g) _ _ _ _ _ _ _ _ _ _ _ _=_∧_
  unfold Je
  rw[DL hg.1,Ak]
  by_cases hlt:i < (eL s).length
  ·have hlt':i < (els h.length (tb s)).length:=by omega
   have hx:(eL s)[i]=Int.ofNat ((els h.length (tb s))[i]):=by simp only[heL,List.getElem_map]
   obtain⟨x1,x2⟩:=DT.1 (List.getElem_mem hlt')
   rw[List.drop_eq_getElem_cons hlt',List.findSome?_cons]
   generalize hxe:(els h.length (tb s))[i]=x at *
   have hcl:=QJ s x h.length hs
   have hdel:∀ j,j < h.length→tb (cl s x) j=del (tb s) x j:=Pm hN
   have hcd2:card h.length (tb (cl s x)) < d:=by
    rw[FK hdel];have:=Fp x1 x2;omega
   have next : ∀ (c1 : Nat) (es1 : List EO), Gm h w es1 → ∃ es' c', Iq (Fh (n + 1)) 1000000 (G9 (Fh (n + 1)) 1000000 g) (sl 0 (nI bg)) (Int.ofNat s) (Int.ofNat r) (Int.ofNat last) (sl 0 (eL s)) (Int.ofNat (eL s).length) (Int.ofNat i) k (sl fl h) (sl fl' w) es1 c1 =
    some (.tuple ⟨[Pn bg (((els h.length (tb s)).drop (i+1)).findSome? (fd h w r f d (tb s) last)),K9 fl fl' k h w,mp es' c']⟩)∧Gm h w es':=by
    intro c1 es1 g1
    unfold Iq
    rw[DL g1.1,Ak,DC i (by omega)]
    exact ih (i+1) c1 es1 (by omega) (by omega) g1
   rw[FD hlt]
   have hgx:((eL s).map I)[i]?=some (I (Int.ofNat x)):=by rw[Aja _ i hlt,hx]
   have hlw:last < w.length:=by omega
   simp only[Ak,Cx,Ac,I4,GX,blt_eq,hlt,x1,hlw,decide_true,CF,Bool.true_and,BZ,Nat.mul_one,hgx,BP,Aja h x x1,Aja w last hlw,KU s x (Nat.lt_of_lt_of_le hs (QK hN)) (by omega)]
   by_cases hc:h[x]=w[last]
   ·have q:Bd h[x] w[last]=true:=by simp[Lr,hc]
    have hfd:fd h w r f d (tb s) last x=(K7 h.length (fn h) (fn w) (Qr h w r) f d (tb (cl s x)) x).map (x :: ·):=by
     unfold fd
     rw[if_pos (by rw[Eo x1,Eo hlw,hc]),Jw (QN h w r) f d _ _ x hdel]
    have hla:(bg++[x]).length=bg.length+1:=by simp
    obtain ⟨es1, c1, e1, g1⟩ := ih0 (cl s x) (bg ++ [x]) f x es c hcd2 hcl hg (by rw [hla]; omega) hf x1 (by
     rw[List.getElem?_append_left];exact hb0
     exact(List.getElem?_eq_some_iff.1 hb0).1) (by rw[hla];simp)
    have p:=p72 n bg
    unfold S at p
    rw[q,Ak,p,Ac,Dc,Ac]
    have w1:=iW (bg++[x])
    have t1:=takeN (bg++[x])
    rw[hla] at w1 t1
    have r1:=V5 (n:=bg.length+1) (b:=8) (by omega) (by omega)
    rw[show Nat.beq (sl 1 (nI bg)).fl 1=true from rfl]
    simp only[I4,GX,Gu,Ed,Bool.true_or,r1,CF,Bool.and_true,Ak,iZ,Nat.mul_one] at w1 t1 ⊢
    rw[w1,Ak,t1]
    have sR:Sl.v 1 (Sl.mk (bg.length+1) 0 ((nI (bg++[x])).map I))=S 0 (nI (bg++[x])):=by
     unfold S sl;rw[Gu,hla]
    rw[sR]
    unfold K9 mp ptr at e1
    have e1':Fh (n+1) 10680 [.pointer (some ⟨1,0,none⟩),S 0 (nI (bg++[x])),.int .u16 (Int.ofNat (cl s x)),.int .i64 (Int.ofNat r),.agg ⟨[.int .i64 k,Sl.v 1 (sl fl h),Sl.v 1 (sl fl' w),.map (some 2)]⟩,Ef (.map es c)]=some (.tuple ⟨[Pn (bg++[x]) (K7 h.length (fn h) (fn w) (Qr h w r) f d (tb (cl s x)) x),.agg ⟨[.int .i64 k,Sl.v 1 (sl fl h),Sl.v 1 (sl fl' w),.map (some 2)]⟩,Ef (.map es1 c1)]⟩):=e1
    rw[e1',hfd]
    cases hD:K7 h.length (fn h) (fn w) (Qr h w r) f d (tb (cl s x)) x with
    | none =>
     obtain⟨es2,c2,e2,g2⟩:=next c1 es1 g1
     refine⟨es2,c2,?_,g2⟩
     simp only[Pn,Ac,FW,Dj,EG,RL,BP,Dc,CX,DL g1.1,Ak]
     rw[show FC (Value.map (some 2)) 2=true from rfl,Ak,show Nat.beq 2 2=true from rfl,show bq false true=false from rfl,AA,Bool.true_or,Ak]
     exact e2
    | some e =>
     refine⟨es1,c1,?_,g1⟩
     have hne:Nat.ble 1 (bg++[x]++e).length=true:=by rw[Nat.ble_eq];simp only[List.length_append,List.length_singleton];omega
     simp only[Pn,S,Ac,FW,Dj,EG,RL,BP,Dc,CX,DL g1.1,Ak,Option.map_some,I4,Gu,hne]
     rw[show FC (Value.map (some 2)) 2=true from rfl,Ak,show Nat.beq (sl 0 (nI (bg++[x]++e))).fl 2=false from rfl,show bq false false=true from rfl,Ak,Bool.or_true,Bool.or_true,Ak]
     rw[List.append_assoc];rfl
   ·have q:Bd h[x] w[last]=false:=by simp[Lr,hc]
    have hfd:fd h w r f d (tb s) last x=none:=by
     unfold fd
     rw[if_neg (by rw[Eo x1,Eo hlw];exact hc)]
    rw[q,AA,hfd]
    exact next c es hg
  ·have hi':i=(eL s).length:=by omega
   subst hi'
   rw[FL hlt,AA,List.drop_of_length_le (by omega)]
   unfold Jd
   rw[DL hg.1,Ak]
   exact⟨es,c,rfl,hg⟩
include hk hkw
theorem jC (r:Nat):∀ (d n:Nat),Dn fl fl' k h w r (n+d+15) d:=by
 intro d
 induction d with
 | zero=>intro n s bg f last es c hd;omega
 | succ d ih =>
  intro n s bg f last es c hd hs hg hbg hf hl hb0 hbl
  have e0:Fh (n+(d+1)+15) 10680 [ptr,S 0 (nI bg),U s,I (Int.ofNat r),K9 fl fl' k h w,mp es c]=Jj (Fh (n+(d+1)+14)) 1000000 (sl 0 (nI bg)) (Int.ofNat s) (Int.ofNat r) k (sl fl h) (sl fl' w) es c:=by
   show JO _ _ [ptr,S 0 (nI bg),U s,I (Int.ofNat r),K9 fl fl' k h w,mp es c]=_
   unfold JO K9 S mp ptr
   simp only[Dj,EG,CX,Ab7,BP,RL,Dc,Ac]
   rfl
  rw[e0]
  have h0:0 < bg.length:=(List.getElem?_eq_some_iff.1 hb0).1
  have hs10:=Nat.lt_of_lt_of_le hs (QK hN)
  have loop : ∀ (b : Bool) (es1 : List EO) (c1 : Nat), Gm h w es1 → (b = true → ¬ (fn w last = fn h f ∧ Qr h w r (tb s)) → False) → (b = false → (fn w last = fn h f ∧ Qr h w r (tb s)) → False) →
   ∃ es' c',Ha (Fh (n+(d+1)+14)) 1000000 (sl 0 (nI bg)) (Int.ofNat s) (Int.ofNat r) (Int.ofNat last) b k (sl fl h) (sl fl' w) es1 c1=some (.tuple ⟨[Pn bg (K7 h.length (fn h) (fn w) (Qr h w r) f (d+1) (tb s) last),K9 fl fl' k h w,mp es' c']⟩)∧Gm h w es':=by
   intro b es1 c1 g1 hb1 hb2
   unfold Ha K7
   rw[DL g1.1,Ak]
   by_cases hc:fn w last=fn h f∧Qr h w r (tb s)
   ·cases b with
    | false=>exact(hb2 rfl hc).elim
    | true =>
     refine⟨es1,c1,?_,g1⟩
     have e:Pn bg (some [])=S 0 (nI bg):=by show S 0 (nI (bg++[]))=_;rw[List.append_nil]
     rw[if_pos hc,Ak,e];rfl
   ·cases b with
    | true=>exact(hb1 rfl hc).elim
    | false =>
     rw[if_neg hc,AA]
     have p:=p62 (n+d+13) s hs10
     rw[Yj s hs10] at p
     have p':Fh (n+(d+1)+14) 62 [.int .u16 (Int.ofNat s)]=some (S 0 (eL s)):=by
      rw[show n+(d+1)+14=n+d+13+2 by omega];exact p
     rw[p',Ac]
     unfold S
     rw[Dc,Ac,I4]
     have:=jA fl fl' k h w hN hw r (n+d+14) d s bg f last hs hd (by omega) hf hl hb0 (ih n) 1000000 0 c1 es1 (by rw[VZ hN hs,List.length_map,FM];unfold card;have:=List.countP_le_length (l:=List.range h.length) (p:=tb s);rw[List.length_range] at this;omega) (by omega) g1
     rw[List.drop_zero] at this
     rw[show n+(d+1)+14=n+d+14+1 by omega]
     exact this
  unfold Jj
  have hlw:last < w.length:=by omega
  have hb1:bg.length - 1 < bg.length:=by omega
  have hgl:((nI bg).map I)[bg.length - 1]?=some (I (Int.ofNat last)):=by
   rw[iV bg _ hb1];rw[List.getElem?_eq_getElem hb1] at hbl;injection hbl with hbl;rw[hbl]
  have hgf:((nI bg).map I)[0]?=some (I (Int.ofNat f)):=by
   rw[iV bg _ h0];rw[List.getElem?_eq_getElem h0] at hb0;injection hb0 with hb0;rw[hb0]
  have hsub:Aj .i64 (Int.sub (Int.ofNat bg.length) 1)=Int.ofNat (bg.length - 1):=by
   have e:Int.sub (Int.ofNat bg.length) 1=Int.ofNat (bg.length - 1):=by show (bg.length:Int) - 1=((bg.length - 1:Nat):Int);omega
   rw[e]
   exact Oe _ (by show _≤((bg.length - 1:Nat):Int);omega) (by show ((bg.length - 1:Nat):Int)≤_;omega)
  rw[DL hg.1,Ak,I4,Gu,hsub]
  simp only[Ak,Cx,Ac,I4,GX,Gu,blt_eq,hb1,h0,hf,hlw,decide_true,CF,Bool.true_and,BZ,Nat.mul_one,Nat.zero_mul,hgl,hgf,BP,Aja h f hf,Aja w last hlw]
  by_cases hc:w[last]=h[f]
  ·have q:Bd w[last] h[f]=true:=by simp[Lr,hc]
   rw[q,Ak]
   obtain⟨b,e,hb⟩:=p71 (n+d+13) fl fl' s k h w hN hw hs10 hk hkw
   unfold tr S at e
   rw[show n+(d+1)+14=n+d+13+2 by omega,e,Ac,BU,Ac]
   rw[show n+(d+1)+14=n+d+13+2 by omega] at loop
   cases b with
   | false =>
    rw[AA]
    exact loop false es c hg (fun x=>by cases x) (fun _ g=>by simpa using hb.2 g.2.1)
   | true =>
    rw[Ak]
    try rw[Ak]
    have hMo:=R8 fl fl' k h w hN hw hk hkw 10 (n+d+2)
    rw[show n+d+2+10+3=n+d+13+2 by omega] at hMo
    obtain⟨es1,c1,e1,g1⟩:=hMo s es c (Nat.le_trans (Iz _ _) hN) hs hg
    unfold K9 S mp ptr at e1
    have e1':Fh (n+d+13+2) 10660 [.pointer (some ⟨1,0,none⟩),.int .u16 (Int.ofNat s),.agg ⟨[.int .i64 k,Sl.v 1 (sl fl h),Sl.v 1 (sl fl' w),.map (some 2)]⟩,Ef (.map es c)]=some (.tuple ⟨[I (Co h w s),.agg ⟨[.int .i64 k,Sl.v 1 (sl fl h),Sl.v 1 (sl fl' w),.map (some 2)]⟩,Ef (.map es1 c1)]⟩):=e1
    rw[e1']
    simp only[Ac,FW,Dj,EG,RL,BP,Dc,CX,DL g1.1,Ak]
    rw[show FC (Value.map (some 2)) 2=true from rfl,Ak]
    refine loop _ es1 c1 g1 (fun x y=>y ⟨by rw[Eo hlw,Eo hf,hc],hb.1 rfl,?_⟩) (fun x y=>?_)
    ·rw[Lr] at x
     have x:=of_decide_eq_true x
     unfold Co at x
     exact Int.ofNat.inj x
    ·have z:=y.2.2
     unfold Co at x
     rw[z,Lr] at x
     simp at x
  ·have q:Bd w[last] h[f]=false:=by simp[Lr,hc]
   rw[q,AA]
   exact loop false es c hg (fun x=>by cases x) (fun _ g=>hc (by have:=g.1;rwa [Eo hlw,Eo hf] at this))
end
end Go.MdTM
set_option maxRecDepth 100000
namespace Go.MdM
variable {N:Nat} {H W:Nat→Int}
theorem V6 {A B:Bn} (h:∀ i,i < N→A i=B i):Qs N H W A=Qs N H W B:=by
 funext R;unfold Qs;rw[HV h]
theorem OX {A B:Bn} (h:∀ i,i < N→A i=B i) (r:List Nat):∀ i,i < N→rem A r i=rem B r i:=fun i hi=>by unfold rem;rw[h i hi]
theorem jD (S:Bn) (A B:Bn) (h:∀ i,i < N→A i=B i):Qs N H W S A↔Qs N H W S B:=by
 unfold Qs;rw[KT h,HV h]
theorem QO:∀ (k:Nat) (A B:Bn),(∀ i,i < N→A i=B i)→gr N H W k A=gr N H W k B
 | 0,_,_,_=>rfl
 | k + 1, A, B, h => by
  unfold gr
  rw[Jv h]
  cases els N B with
  | nil=>rfl
  | cons f l =>
   dsimp only
   rw[V6 (H:=H) (W:=W) h,FK h,Jw (jD B) f _ _ _ f (K6 h f),QO k _ _ (OX h _)]
theorem V8 {Q:Bn→Prop} {f:Nat}:∀ (e:List Nat) (R:Bn) (last:Nat),BB N H W Q f R last e→e.length≤card N R
 | [],_,_,_=>Nat.zero_le _
 | i :: e, R, last, hr => by
  obtain⟨h1,h2,_,h4⟩:=hr
  have:=V8 e _ _ h4
  have:=Fp h1 h2
  rw[List.length_cons];omega
end Go.MdM
namespace Go.MdTM
open Go.Sp Go.MdT Go.MdM

theorem q48 (k:Nat) (args:List Value):Fh (k+1) 48 args=kV (Fh k) L args:=by kernel_rfl
theorem zJ (pu:Af) (fl fl':Nat) (k:Int) (h w:List Int):kV pu L [tr fl fl' k h w]=WH pu L k (sl fl h) (sl fl' w):=by kernel_rfl
theorem wL (pu:Af):NL (fun s=>WS (WL pu 1000000 (Int.ofNat s)) (Int.ofNat ((els 10 (tb s)).headD 16))) 1024=true:=by kernel_rfl
theorem p67 (n s:Nat) (hs:s < 1024):Fh (n+1) 67 [.int .u16 (Int.ofNat s)]=some (I (Int.ofNat ((els 10 (tb s)).headD 16))):=by
 refine Eq.trans (b:=WL (Fh n) 1000000 (Int.ofNat s)) (by kernel_rfl) ?_
 exact SK (Rp (wL _) s hs)
theorem wM {s m:Nat} (hm:m≤10) (hs:s < 2 ^ m):els 10 (tb s)=els m (tb s):=by
 have:=VZ hm hs
 unfold eL at this
 have inj:∀ (a b:List Nat),a.map Int.ofNat=b.map Int.ofNat→a=b:=by
  intro a
  induction a with
  | nil=>intro b h;cases b with | nil=>rfl | cons=>simp at h
  | cons x a ih => intro b h; cases b with
   | nil=>simp at h
   | cons y b=>rw[List.map_cons,List.map_cons] at h;injection h with h1 h2;rw[Int.ofNat.inj h1,ih b h2]
 exact inj _ _ this
def wN:Nat→List Nat→Nat
 | s,[]=>s
 | s,i::r=>wN (cl s i) r
theorem V9 (m:Nat):∀ (r:List Nat) (s:Nat),s < 2 ^ m→wN s r < 2 ^ m
 | [],_,h=>h
 | i::r,s,h=>V9 m r _ (QJ s i m h)
theorem TY {m:Nat} (hm:m≤10):∀ (r:List Nat) (s:Nat),∀ i,i < m→tb (wN s r) i=rem (tb s) r i
 | [],s,i,_=>by rw[SI];rfl
 | j :: r, s, i, hi => by
  rw[Ir]
  exact(TY hm r (cl s j) i hi).trans (OX (N:=m) (Pm hm) r i hi)
section
variable (fl fl':Nat) (k:Int) (h w:List Int) (hN:h.length≤10) (hw:w.length=h.length) (hk:RX h) (hkw:RX w)
theorem WZ (pu:Af) (m:Nat) (ih0:Nat→Nat→Int→Int→Sl→Sl→List Value→List EO→Nat→Option Value) (a b c:Nat) (L:List (List Nat)) (es:List EO) (hg:Gm h w es) (r:List Nat) (hr:∀ i∈r,i < 10) (hrl:r.length≤900) :
 ∀ (g i s:Nat),r.length - i < g→i≤r.length→s < 1024→Qv pu m ih0 g a b (Int.ofNat s) (sl 0 (nI r)) (Int.ofNat r.length) (Int.ofNat i) k (sl fl h) (sl fl' w) (L.map rv) es c=ih0 a b (Int.ofNat (wN s (r.drop i))) k (sl fl h) (sl fl' w) (L.map rv) es c:=by
 intro g
 induction g with
 | zero=>intro i s hi;omega
 | succ g ih =>
  intro i s hi hil hs
  show Qu pu m ih0 (Qv pu m ih0 g) _ _ _ _ _ _ _ _ _ _ _ _=_
  unfold Qu
  rw[kX,Ak,DL hg.1,Ak]
  by_cases hlt:i < r.length
  ·rw[FD hlt,List.drop_eq_getElem_cons hlt]
   have hx:=hr r[i] (List.getElem_mem hlt)
   simp only[Ak,Cx,Ac,I4,GX,Gu,blt_eq,hlt,decide_true,CF,Bool.true_and,BZ,Nat.mul_one,iV r i hlt,BP,KU s r[i] hs hx,DC i (by omega)]
   rw[ih (i+1) (cl s r[i]) (by omega) (by omega) (QJ s _ 10 hs)]
   rfl
  ·have:i=r.length:=by omega
   subst this
   rw[FL hlt,AA,List.drop_length]
   rfl
include hN hw hk hkw
theorem l48 (n:Nat):∀ (kk g s c:Nat) (es:List EO) (L:List (List Nat)),card h.length (tb s)≤kk→kk < g→s < 2 ^ h.length→Bp h.length (fn h) (fn w) (tb s)→Gm h w es→L.length+kk≤100 →
 Kg (Fh (n+26)) 1000000 g L.length (2*L.length) (Int.ofNat s) k (sl fl h) (sl fl' w) (L.map rv) es c=some (Sl.v 1 (LL 0 (L++gr h.length (fn h) (fn w) kk (tb s)))):=by
 intro kk
 have fin:∀ (g c:Nat) (es:List EO) (L:List (List Nat)),Gm h w es→0 < g→Kg (Fh (n+26)) 1000000 g L.length (2*L.length) (Int.ofNat 0) k (sl fl h) (sl fl' w) (L.map rv) es c=some (Sl.v 1 (LL 0 L)):=by
  intro g c es L hg h0
  cases g with
  | zero=>omega
  | succ g =>
   show MG _ _ _ _ _ _ _ _ _ _ _ _=_
   unfold MG
   rw[kX,Ak,DL hg.1,Ak,show nt (Bd (Int.ofNat 0) 0)=false from rfl,AA]
   unfold Qt
   rw[kX,Ak,iX,Ak,iY]
   rfl
 have zer:∀ s,s < 2 ^ h.length→els h.length (tb s)=[]→s=0:=by
  intro s hs he
  have hz:card h.length (tb s)=0:=by rw[←FM,he];rfl
  apply Nat.eq_of_testBit_eq
  intro i
  rw[Nat.zero_testBit]
  by_cases hi:i < h.length
  ·exact Gq hz i hi
  ·exact KV hs (by omega)
 induction kk with
 | zero =>
  intro g s c es L hc hg0 hs hE hg hL
  have:s=0:=zer s hs (by apply List.length_eq_zero_iff.1;rw[FM];omega)
  subst this
  rw[show gr h.length (fn h) (fn w) 0 (tb 0)=[] from rfl,List.append_nil]
  exact fin g c es L hg hg0
 | succ kk ih =>
  intro g s c es L hc hg0 hs hE hg hL
  cases he:els h.length (tb s) with
  | nil =>
   have:=zer s hs he
   subst this
   unfold gr
   rw[he]
   dsimp only
   rw[List.append_nil]
   exact fin g c es L hg (by omega)
  | cons f l =>
   obtain⟨f1,f2,f3⟩:=OU he
   have hcd:=Fp f1 f2
   have hs10:=Nat.lt_of_lt_of_le hs (QK hN)
   obtain⟨d1,d2⟩:=VV (N:=h.length) (H:=fn h) (W:=fn w) (Q:=Qs h.length (fn h) (fn w) (tb s)) (f:=f) (card h.length (tb s)+1) (del (tb s) f) f (by omega)
   unfold gr
   rw[he]
   dsimp only
   cases hd:K7 h.length (fn h) (fn w) (Qs h.length (fn h) (fn w) (tb s)) f (card h.length (tb s)+1) (del (tb s) f) f with
   | none =>
    obtain⟨e,he⟩:=OT (H:=fn h) (W:=fn w) (card h.length (tb s)) (tb s) f (Nat.le_refl _) hE f1 f2
    exact absurd he (d2 hd e)
   | some e =>
    obtain⟨g1,g2⟩:=d1 e hd
    obtain⟨g3,g4⟩:=(Nc e _ _).1 g1
    obtain⟨g5,g6⟩:=g4
    simp only[Option.getD_some]
    rw[←Ir] at g5 g6
    have hsub:Oy h.length (rem (tb s) (f::e)) (del (tb s) f):=by intro j hj h;simp[rem,del] at h ⊢;exact⟨h.1,h.2.1⟩
    have hcl:card h.length (rem (tb s) (f::e))≤kk:=by
     have:card h.length (del (tb s) f)=card h.length (rem (tb s) (f::e))+_:=hsub.card
     omega
    have hr:∀ i∈f::e,i < h.length:=by
     intro i hi
     rcases List.mem_cons.1 hi with rfl | hi
     ·exact f1
     ·exact(VL e _ _ g3 i hi).1
    have hrl:(f::e).length≤11:=by
     have:=V8 e _ _ g3
     have:=Iz h.length (del (tb s) f)
     rw[List.length_cons];omega
    obtain⟨g,rfl⟩:∃ g',g=g'+1:=⟨g - 1,by omega⟩
    show MG _ _ _ _ _ _ _ _ _ _ _ _=_
    unfold MG
    have hs0:s≠0:=by
     rintro rfl
     simp[tb] at f2
    have q0:nt (Bd (Int.ofNat s) 0)=true:=by
     rw[Lr,Km];simp;omega
    rw[kX,Ak,DL hg.1,Ak,q0,Ak]
    have p:=p67 (n+25) s hs10
    rw[wM hN hs,he] at p
    rw[p]
    have hMo:=R8 fl fl' k h w hN hw hk hkw 10 (n+13)
    rw[show n+13+10+3=n+26 by omega] at hMo
    obtain⟨es1,c1,e1,q1⟩:=hMo s es c (Nat.le_trans (Iz _ _) hN) hs hg
    unfold K9 S mp ptr at e1
    have e1':Fh (n+26) 10660 [.pointer (some ⟨1,0,none⟩),.int .u16 (Int.ofNat s),.agg ⟨[.int .i64 k,Sl.v 1 (sl fl h),Sl.v 1 (sl fl' w),.map (some 2)]⟩,Ef (.map es c)]=some (.tuple ⟨[I (Co h w s),.agg ⟨[.int .i64 k,Sl.v 1 (sl fl h),Sl.v 1 (sl fl' w),.map (some 2)]⟩,Ef (.map es1 c1)]⟩):=e1
    have hM:=iO h.length (fn h) (fn w) (tb s)
    have hsub:Aj .i64 (Int.sub (Co h w s) 1)=Int.ofNat (M h.length (fn h) (fn w) (tb s) - 1):=by
     unfold Co
     have e:Int.sub (Int.ofNat (M h.length (fn h) (fn w) (tb s))) 1=Int.ofNat (M h.length (fn h) (fn w) (tb s) - 1):=by show (M h.length (fn h) (fn w) (tb s):Int) - 1=((M h.length (fn h) (fn w) (tb s) - 1:Nat):Int);omega
     rw[e]
     exact Oe _ (by show _≤((M h.length (fn h) (fn w) (tb s) - 1:Nat):Int);omega) (by show ((M h.length (fn h) (fn w) (tb s) - 1:Nat):Int)≤_;omega)
    simp only[Ac,BP,Cx,List.headD_cons]
    rw[e1']
    simp only[Ac,FW,Dj,EG,RL,BP,Dc,CX,DL q1.1,Ak]
    rw[show FC (Value.map (some 2)) 2=true from rfl,Ak,hsub,KU s f hs10 (by omega)]
    have hRi:=jC fl fl' k h w hN hw hk hkw (M h.length (fn h) (fn w) (tb s) - 1) 11 n
    obtain⟨es2,c2,e2,q2⟩:=hRi (cl s f) [f] f f es1 c1 (Nat.lt_of_le_of_lt (Iz _ _) (by omega)) (QJ s f _ hs) q1 (by simp) f1 f1 rfl rfl
    have hdf:K7 h.length (fn h) (fn w) (Qr h w (M h.length (fn h) (fn w) (tb s) - 1)) f 11 (tb (cl s f)) f=some e:=by
     rw[←hd,Jw (QN h w _) f 11 _ _ f (Pm hN),QM f 11 (card h.length (tb s)+1) (del (tb s) f) f (Nat.lt_of_le_of_lt (Iz _ _) (by omega)) (by omega)]
     congr 1
     funext R
     unfold Qr Qs
     exact propext (and_congr Iff.rfl ⟨fun x=>by omega,fun x=>by omega⟩)
    rw[hdf] at e2
    unfold K9 S mp ptr Pn at e2
    have e2':Fh (n+26) 10680 [.pointer (some ⟨1,0,none⟩),Sl.v 1 (Sl.mk 1 0 (Aq (1*1) (Am 0 ([I (Int.ofNat f)]:List Value)))),.int .u16 (Int.ofNat (cl s f)),.int .i64 (Int.ofNat (M h.length (fn h) (fn w) (tb s) - 1)),.agg ⟨[.int .i64 k,Sl.v 1 (sl fl h),Sl.v 1 (sl fl' w),.map (some 2)]⟩,Ef (.map es1 c1)]=some (.tuple ⟨[Sl.v 1 (sl 0 (nI (f::e))),.agg ⟨[.int .i64 k,Sl.v 1 (sl fl h),Sl.v 1 (sl fl' w),.map (some 2)]⟩,Ef (.map es2 c2)]⟩):=e2
    rw[e2']
    simp only[Ac,FW,Dj,EG,RL,BP,Dc,CX,DL q2.1,Ak]
    rw[show FC (Value.map (some 2)) 2=true from rfl,Ak]
    have gw:=Yl 1 24 L.length 1 (L.map rv) (V5 (by omega) (by omega)) (by omega) (by simp)
    have sn:=wI L (f::e)
    unfold S at sn
    rw[gw,Ak,sn,kX,Ak,I4,Gu]
    have cap:2*(L.length+1)+bb false 1 0=2*(L.length+1):=rfl
    rw[cap]
    have hlen:(L++[f::e]).length=L.length+1:=by simp
    have q3:=WZ fl fl' k h w (Fh (n+26)) 1000000 (Kg (Fh (n+26)) 1000000 g) (L.length+1) (2*(L.length+1)) c2 (L++[f::e]) es2 q2 (f::e) (fun i hi=>by have:=hr i hi;omega) (by omega) 1000000 0 s (by omega) (by omega) hs10
    rw[List.drop_zero] at q3
    have hrm:=TY (m:=h.length) hN (f::e) s
    have q4:=ih g (wN s (f::e)) c2 es2 (L++[f::e]) (by rw[FK hrm];exact hcl) (by omega) (V9 _ _ _ hs) ((KT hrm).2 g5) q2 (by rw[hlen];omega)
    rw[hlen] at q4
    refine Eq.trans q3 (q4.trans ?_)
    rw[QO kk _ _ hrm,List.append_assoc]
    rfl
theorem p48 (n:Nat) (hE:Bp h.length (fn h) (fn w) (tb (bv h w))):Fh (n+27) 48 [tr fl fl' k h w]=some (Sl.v 1 (LL 0 (C8 h w))):=by
 rw[q48,zJ,show L=1000000 from rfl]
 unfold WH
 have e2:=p51 (n+25) fl fl' k h w hN hw
 have e4:=V4 (n+25) fl fl' k h w
 unfold tr S at e2 e4
 unfold K9 S mp ptr at e4
 rw[e4]
 simp -implicitDefEqProofs only [Ac,FW,Dj,EG,RL,BP,Dc,CX,DL (xP h w).1,Ak]
 rw[show MK (Value.pointer (some ⟨1,0,none⟩)) 1 0=true from rfl,show FC (Value.map (some 2)) 2=true from rfl]
 simp -implicitDefEqProofs only [Ak]
 rw[e2]
 simp -implicitDefEqProofs only [Ac,Ab7]
 have e9:=l48 fl fl' k h w hN hw hk hkw n h.length 1000000 (bv h w) 1 _ [] (Iz _ _) (by omega) (UX h w) hE (xP h w) (by simp;omega)
 exact e9
end
end Go.MdTM
namespace Go.MdV
def Sb (v:Int):List Int→Nat→Nat→Nat
 | [],_,i=>i
 | x::h,c,i=>if x=v then (match c with | 0=>i | c+1=>Sb v h c (i+1)) else Sb v h c (i+1)
def Kc (h:List Int):List Int→List Int→List Int
 | [],_=>[]
 | v::w,pre=>(Sb v h (pre.count v) 0:Int)::Kc h w (pre++[v])
def less (a:Int):List Int→Nat
 | []=>0
 | b::l=>(if b < a then 1 else 0)+less a l
def inv:List Int→Nat
 | []=>0
 | a::l=>less a l+inv l
theorem Ng (v:Int):∀ (h:List Int) (c i:Nat),c < h.count v→∃ p,Sb v h c i=i+p∧h[p]?=some v∧(h.take p).count v=c
 | [],c,i,hc=>by simp at hc
 | x :: h, c, i, hc => by
  unfold Sb
  by_cases hx:x=v
  ·subst hx
   rw[if_pos rfl]
   cases c with
   | zero=>exact⟨0,rfl,rfl,rfl⟩
   | succ c =>
    rw[List.count_cons_self] at hc
    obtain⟨p,e1,e2,e3⟩:=Ng x h c (i+1) (by omega)
    exact⟨p+1,by show Sb x h c (i+1)=_;rw[e1];omega,by simpa using e2,by rw[List.take_succ_cons,List.count_cons_self,e3]⟩
  ·rw[if_neg hx]
   rw[List.count_cons_of_ne hx] at hc
   obtain⟨p,e1,e2,e3⟩:=Ng v h c (i+1) hc
   exact⟨p+1,by rw[e1];omega,by simpa using e2,by rw[List.take_succ_cons,List.count_cons_of_ne hx,e3]⟩
theorem Sc (v:Int):∀ (h:List Int) (p i:Nat),h[p]?=some v→Sb v h ((h.take p).count v) i=i+p
 | [],p,i,hp=>by simp at hp
 | x :: h, 0, i, hp => by
  obtain rfl:x=v:=by simpa using hp
  show (if x=x then _ else _)=_
  rw[if_pos rfl];rfl
 | x :: h, p + 1, i, hp => by
  have hp:h[p]?=some v:=by simpa using hp
  rw[List.take_succ_cons]
  by_cases hx:x=v
  ·subst hx
   rw[List.count_cons_self]
   show (if x=x then Sb x h ((h.take p).count x) (i+1) else _)=_
   rw[if_pos rfl,Sc x h p (i+1) hp];omega
  ·rw[List.count_cons_of_ne hx]
   unfold Sb
   rw[if_neg hx,Sc v h p (i+1) hp];omega
def sg (h w:List Int) (j:Nat):Nat:=Sb (w.getD j 0) h ((w.take j).count (w.getD j 0)) 0
theorem TZ (h : List Int) : ∀ (w pre : List Int), Kc h w pre = (List.range w.length).map fun j => (Sb (w.getD j 0) h ((pre ++ w.take j).count (w.getD j 0)) 0 : Int)
 | [],_=>rfl
 | v :: w, pre => by
  show (Sb v h (pre.count v) 0:Int)::Kc h w (pre++[v])=_
  rw[TZ h w (pre++[v]),List.length_cons,List.range_succ_eq_map,List.map_cons,List.map_map]
  congr 1
  ·simp
  ·refine List.map_congr_left fun j _=>?_
   simp
theorem T9 (h w:List Int):Kc h w []=(List.range w.length).map fun j=>(sg h w j:Int):=TZ h w []
theorem Oz {w:List Int} {j:Nat} (hj:j < w.length):(w.take j).count w[j] < w.count w[j]:=by
 have h:=List.take_append_drop j w
 have h2:w.count w[j]=(w.take j).count w[j]+(w.drop j).count w[j]:=by rw[←List.count_append,h]
 rw[List.drop_eq_getElem_cons hj,List.count_cons_self] at h2
 omega
theorem Ua {h w:List Int} (hc:∀ v,h.count v=w.count v) {j:Nat} (hj:j < w.length):sg h w j < h.length∧sg w h (sg h w j)=j:=by
 have e0:w.getD j 0=w[j]:=by simp[List.getD_eq_getElem?_getD,hj]
 obtain⟨p,e1,e2,e3⟩:=Ng w[j] h ((w.take j).count w[j]) 0 (by rw[hc];exact Oz hj)
 have e4:sg h w j=p:=by unfold sg;rw[e0,e1];omega
 have hp:p < h.length:=(List.getElem?_eq_some_iff.1 e2).1
 refine⟨by rw[e4];exact hp,?_⟩
 rw[e4]
 have e5:h.getD p 0=w[j]:=by rw[List.getD_eq_getElem?_getD,e2];rfl
 unfold sg
 rw[e5,e3,Sc _ w j 0 (by simp[hj])];omega
def Uw (n:Nat) (f:Nat→Nat):Nat:=((List.range n).map fun i=>(List.range n).countP fun j=>decide (i < j) && decide (f j < f i)).sum
theorem QR (a : Nat) (f : Nat → Nat) : ∀ l : List Nat, less (a : Int) (l.map fun j => (f j : Int)) = l.countP fun j => decide (f j < a)
 | []=>rfl
 | x :: l => by
  show (if (f x:Int) < (a:Int) then 1 else 0)+less (a:Int) _=_
  rw[QR a f l,List.countP_cons]
  by_cases h:f x < a
  ·rw[if_pos (by omega),decide_eq_true h];simp;omega
  ·rw[if_neg (by omega),decide_eq_false h];simp
theorem Po : ∀ (n : Nat) (f : Nat → Nat), inv ((List.range n).map fun j => (f j : Int)) = Uw n f
 | 0,_=>rfl
 | n + 1, f => by
  unfold Uw
  rw[List.range_succ_eq_map,List.map_cons,List.map_map,List.map_cons,List.map_map,List.sum_cons]
  show less (f 0:Int) _+inv _=_
  have e1:less (f 0:Int) ((List.range n).map ((fun j=>(f j:Int)) ∘ Nat.succ))=(0::(List.range n).map Nat.succ).countP fun j=>decide (0 < j) && decide (f j < f 0):=by
   rw[show ((fun j=>(f j:Int)) ∘ Nat.succ)=fun j=>((fun j=>f (j+1)) j:Int) from rfl,QR,List.countP_cons,List.countP_map]
   simp
   rfl
  rw[e1,show ((fun j=>(f j:Int)) ∘ Nat.succ)=fun j=>((fun j=>f (j+1)) j:Int) from rfl,Po n (fun j=>f (j+1))]
  unfold Uw
  congr 2
  refine List.map_congr_left fun i _=>?_
  simp only[Function.comp]
  rw[List.countP_cons,List.countP_map]
  simp
  refine List.countP_congr fun j _=>?_
  simp[Function.comp]
theorem Wj {l m:List Nat} (h:l.Perm m):l.sum=m.sum:=by
 induction h with
 | nil=>rfl
 | cons x _ ih=>rw[List.sum_cons,List.sum_cons,ih]
 | swap x y l=>rw[List.sum_cons,List.sum_cons,List.sum_cons,List.sum_cons];omega
 | trans _ _ h1 h2=>rw[h1,h2]
theorem W9 {α:Type} (l:List α) (f g:α→Nat):(l.map fun x=>f x+g x).sum=(l.map f).sum+(l.map g).sum:=by
 induction l with
 | nil=>rfl
 | cons x l ih=>rw[List.map_cons,List.map_cons,List.map_cons,List.sum_cons,List.sum_cons,List.sum_cons,ih];omega
theorem QS {α β : Type} (p : α → β → Bool) (B : List β) : ∀ A : List α, (A.map fun x => B.countP fun y => p x y).sum = (B.map fun y => A.countP fun x => p x y).sum
 | [] => by
  rw[List.map_nil]
  have:∀ B:List β,(B.map fun y=>([]:List α).countP fun x=>p x y).sum=0:=by
   intro B
   induction B with
   | nil=>rfl
   | cons y B ih=>rw[List.map_cons,List.sum_cons,ih];rfl
  rw[this];rfl
 | x :: A => by
  rw[List.map_cons,List.sum_cons,QS p B A]
  have e:(fun y=>(x::A).countP fun x=>p x y)=fun y=>(A.countP fun x=>p x y)+(if p x y then 1 else 0):=funext fun y=>List.countP_cons
  rw[e,W9]
  have e2:(B.map fun y=>if p x y then 1 else 0).sum=B.countP fun y=>p x y:=by
   induction B with
   | nil=>rfl
   | cons y B ih=>rw[List.map_cons,List.sum_cons,ih,List.countP_cons];omega
  rw[e2];omega
theorem Wl {n:Nat} {σ τ:Nat→Nat} (h1:∀ j,j < n→σ j < n∧τ (σ j)=j) (h2:∀ j,j < n→τ j < n∧σ (τ j)=j):((List.range n).map τ).Perm (List.range n):=by
 refine(List.perm_ext_iff_of_nodup ?_ List.nodup_range).2 fun j=>?_
 ·unfold List.Nodup
  rw[List.pairwise_map]
  refine List.Pairwise.imp_of_mem ?_ List.nodup_range
  intro a b ha hb hne e
  have:=(h2 a (List.mem_range.1 ha)).2
  rw[e,(h2 b (List.mem_range.1 hb)).2] at this
  exact hne this.symm
 ·rw[List.mem_map,List.mem_range]
  constructor
  ·rintro⟨i,hi,rfl⟩;exact(h2 i (List.mem_range.1 hi)).1
  ·exact fun hj=>⟨σ j,List.mem_range.2 (h1 j hj).1,(h1 j hj).2⟩
theorem Wm {n:Nat} {σ τ:Nat→Nat} (h1:∀ j,j < n→σ j < n∧τ (σ j)=j) (h2:∀ j,j < n→τ j < n∧σ (τ j)=j):Uw n σ=Uw n τ:=by
 have hp:=Wl h1 h2
 unfold Uw
 have e1:((List.range n).map fun i=>(List.range n).countP fun j=>decide (i < j) && decide (σ j < σ i)).sum=((List.range n).map fun b=>(List.range n).countP fun a=>decide (τ b < τ a) && decide (a < b)).sum:=by
  rw[←Wj (hp.map fun i=>(List.range n).countP fun j=>decide (i < j) && decide (σ j < σ i)),List.map_map]
  congr 1
  refine List.map_congr_left fun b hb=>?_
  simp only[Function.comp]
  rw[←hp.countP_eq,List.countP_map]
  refine List.countP_congr fun a ha=>?_
  simp only[Function.comp]
  rw[(h2 b (List.mem_range.1 hb)).2,(h2 a (List.mem_range.1 ha)).2]
 rw[e1,QS]
 congr 1
 refine List.map_congr_left fun a _=>List.countP_congr fun b _=>?_
 rw[Bool.and_comm]
theorem Wn {h w:List Int} (hl:w.length=h.length) (hc:∀ v,h.count v=w.count v):inv (Kc h w [])=inv (Kc w h []):=by
 rw[T9,T9,Po,Po,hl]
 refine Wm (fun j hj=>?_) fun j hj=>?_
 ·exact Ua hc (by omega)
 ·have:=Ua (fun v=>(hc v).symm) hj
  exact⟨by omega,this.2⟩
end Go.MdV
set_option maxRecDepth 100000
namespace Go.MdTM
open Go.Sp Go.MdT Go.MdV
theorem Wo {k:Int} {h w:List Int} (hc:chk k h w=0):1≤k∧k≤5∧h.length≤10∧w.length=h.length∧I9 k h∧I9 k w∧Yh k.toNat h w:=by
 unfold chk at hc
 by_cases h1:1≤k∧k≤5
 ·rw[Gn h1] at hc
  by_cases h2:h.length=0
  ·rw[Gn h2] at hc;omega
  ·rw[Gp h2] at hc
   by_cases h3:10 < h.length
   ·rw[Gn h3] at hc;omega
   ·rw[Gp h3] at hc
    by_cases h4:w.length=h.length
    ·rw[Gn h4] at hc
     by_cases h5:I9 k h∧I9 k w
     ·rw[Gn h5] at hc
      by_cases h6:Yh k.toNat h w
      ·exact⟨h1.1,h1.2,by omega,h4,h5.1,h5.2,h6⟩
      ·rw[Gp h6] at hc;omega
     ·rw[Gp h5] at hc;omega
    ·rw[Gp h4] at hc;omega
 ·rw[Gp h1] at hc;omega
def KX (v:Int):List Int→Nat→List Int
 | [],_=>[]
 | x::h,i=>if x=v then (i:Int)::KX v h (i+1) else KX v h (i+1)
theorem Ux (v x:Int) (h:List Int) (i:Nat):KX v (x::h) i=if x=v then (i:Int)::KX v h (i+1) else KX v h (i+1):=rfl
theorem Nh (v:Int):∀ (h:List Int) (i:Nat),(KX v h i).length=h.count v
 | [],i=>rfl
 | x :: h, i => by
  unfold KX
  by_cases hx:x=v
  ·rw[if_pos hx,hx,List.count_cons_self,List.length_cons,Nh v h]
  ·rw[if_neg hx,List.count_cons_of_ne hx,Nh v h]
theorem Ni (v:Int):∀ (h:List Int) (i c:Nat),c < h.count v→(KX v h i).getD c 0=(Sb v h c i:Int)
 | [],i,c,hc=>by simp at hc
 | x :: h, i, c, hc => by
  unfold KX Sb
  by_cases hx:x=v
  ·rw[if_pos hx,if_pos hx]
   rw[hx,List.count_cons_self] at hc
   cases c with
   | zero=>rfl
   | succ c=>exact Ni v h (i+1) c (by omega)
  ·rw[if_neg hx,if_neg hx]
   rw[List.count_cons_of_ne hx] at hc
   exact Ni v h (i+1) c hc

theorem OY (h:List Int) (v:Int) (w pre:List Int):Kc h (v::w) pre=(Sb v h (pre.count v) 0:Int)::Kc h w (pre++[v]):=rfl
section
variable (pu:Af) (n:Nat)
noncomputable def wO (k:Int) (s t:Sl) (h:List Int) (f i:Nat) (A:Nat→List Int):Option Value:=
 OO pu n f s (Int.ofNat h.length) (Int.ofNat i) k s t (A 0).length (2 * (A 0).length) (A 1).length (2 * (A 1).length) (A 2).length (2 * (A 2).length) (A 3).length (2 * (A 3).length) (A 4).length (2 * (A 4).length)
  ((A 0).map I) ((A 1).map I) ((A 2).map I) ((A 3).map I) ((A 4).map I)
noncomputable def Dr (k:Int) (s t:Sl) (A:Nat→List Int):Option Value:=
 OM pu n k s t (A 0).length (2 * (A 0).length) (A 1).length (2 * (A 1).length) (A 2).length (2 * (A 2).length) (A 3).length (2 * (A 3).length) (A 4).length (2 * (A 4).length)
  ((A 0).map I) ((A 1).map I) ((A 2).map I) ((A 3).map I) ((A 4).map I)
def put (A:Nat→List Int) (K i:Nat):Nat→List Int:=fun j=>if j=K then A j++[(i:Int)] else A j
theorem wP (k:Int) (s t:Sl) (h:List Int) (fl:Nat) (hs:s=sl fl h) (f i:Nat) (A:Nat→List Int) (hA:∀ j,(A j).length < 1000) (hi:i < h.length) (hh:h.length < 1000) (K:Nat) (hK:h[i]=Int.ofNat K) (hK5:K < 5) :
 wO pu n k s t h (f+1) i A=wO pu n k s t h f (i+1) (put A K i):=by
 subst hs
 show ML pu n (OO pu n f) _ _ _ _ _ _ _ _ _ _ _ _ _ _ _ _ _ _ _ _ _=_
 unfold ML wO
 have ea:∀ r:List Int,Br (Am 0 (r.map I)) [I (Int.ofNat i)]=(r++[(i:Int)]).map I:=fun r=>by simp
 have e1:(h.map I)[i]?=some (I (Int.ofNat K)):=by rw[Aja h i hi,hK]
 rw[FD hi]
 simp only[Bh,kL,Ak,Cx,Ac,I4,GX,blt_eq,hi,decide_true,CF,Bool.true_and,BZ,Nat.mul_one,e1,BP,DC i (by omega:i < 1000000)]
 match K,hK5 with
 | 0,_=>simp only[show Nat.beq 0 0=true from rfl,Ak,I8 _ (hA 0),ea,Bh,kL,put,if_true,show (1:Nat)≠0 from by omega,show (2:Nat)≠0 from by omega,show (3:Nat)≠0 from by omega,show (4:Nat)≠0 from by omega,if_false,List.length_append,List.length_cons,List.length_nil,AA,Nat.add_zero,Nat.zero_add]
 | 1,_=>simp only[show Nat.beq 1 0=false from rfl,show Nat.beq 1 1=true from rfl,Ak,I8 _ (hA 1),ea,Bh,kL,put,if_true,show (0:Nat)≠1 from by omega,show (2:Nat)≠1 from by omega,show (3:Nat)≠1 from by omega,show (4:Nat)≠1 from by omega,if_false,List.length_append,List.length_cons,List.length_nil,AA,Nat.add_zero,Nat.zero_add]
 | 2,_=>simp only[show Nat.beq 2 0=false from rfl,show Nat.beq 2 1=false from rfl,show Nat.beq 2 2=true from rfl,Ak,I8 _ (hA 2),ea,Bh,kL,put,if_true,show (0:Nat)≠2 from by omega,show (1:Nat)≠2 from by omega,show (3:Nat)≠2 from by omega,show (4:Nat)≠2 from by omega,if_false,List.length_append,List.length_cons,List.length_nil,AA,Nat.add_zero,Nat.zero_add]
 | 3,_=>simp only[show Nat.beq 3 0=false from rfl,show Nat.beq 3 1=false from rfl,show Nat.beq 3 2=false from rfl,show Nat.beq 3 3=true from rfl,Ak,I8 _ (hA 3),ea,Bh,kL,put,if_true,show (0:Nat)≠3 from by omega,show (1:Nat)≠3 from by omega,show (2:Nat)≠3 from by omega,show (4:Nat)≠3 from by omega,if_false,List.length_append,List.length_cons,List.length_nil,AA,Nat.add_zero,Nat.zero_add]
 | 4,_=>simp only[show Nat.beq 4 0=false from rfl,show Nat.beq 4 1=false from rfl,show Nat.beq 4 2=false from rfl,show Nat.beq 4 3=false from rfl,show Nat.beq 4 4=true from rfl,Ak,I8 _ (hA 4),ea,Bh,kL,put,if_true,show (0:Nat)≠4 from by omega,show (1:Nat)≠4 from by omega,show (2:Nat)≠4 from by omega,show (3:Nat)≠4 from by omega,if_false,List.length_append,List.length_cons,List.length_nil,AA,Nat.add_zero,Nat.zero_add]
theorem wQ (k:Int) (s t:Sl) (h:List Int) (fl:Nat) (hs:s=sl fl h) (Uq:I9 k h) (hk:k≤5) (hh:h.length < 100):∀ (f i:Nat) (A:Nat→List Int),h.length - i < f→i≤h.length→(∀ j,(A j).length≤i) →
 wO pu n k s t h f i A=Dr pu n k s t (fun j=>A j++KX (j:Int) (h.drop i) i):=by
 intro f
 induction f with
 | zero=>intro i A hf;omega
 | succ f ih =>
  intro i A hf hi hA
  by_cases hlt:i < h.length
  ·have hm:=Uq _ (List.getElem_mem hlt)
   obtain⟨K,hK⟩:∃ K:Nat,h[i]=Int.ofNat K:=⟨h[i].toNat,(Int.toNat_of_nonneg hm.1).symm⟩
   have hK5:K < 5:=by rw[hK] at hm;simp at hm;omega
   rw[wP pu n k s t h fl hs f i A (fun j=>by have:=hA j;omega) hlt (by omega) K hK hK5,ih (i+1) (put A K i) (by omega) (by omega) (fun j=>by have:=hA j;unfold put;split <;> simp <;> omega)]
   congr 1
   funext j
   have e:h.drop i=h[i]::h.drop (i+1):=List.drop_eq_getElem_cons hlt
   rw[e,hK,Ux]
   unfold put
   by_cases hj:j=K
   ·subst hj
    rw[if_pos rfl,if_pos (show Int.ofNat j=(j:Int) from rfl)];simp
   ·rw[if_neg hj,if_neg (by simp;omega)]
  ·have:i=h.length:=by omega
   subst this
   subst hs
   show ML pu n (OO pu n f) _ _ _ _ _ _ _ _ _ _ _ _ _ _ _ _ _ _ _ _ _=_
   unfold ML
   rw[FL hlt]
   simp only[Bh,kL,Ak,AA,List.drop_length,KX,List.append_nil]
   rfl
end
theorem zK (pu:Af) (n c:Nat) (r:List Int):OJ pu n r.length c (r.map I)=some (S 0 r):=by
 unfold OJ
 simp only[Bh,kL,Ak,ble_eq,AV,List.length_map,Nat.zero_add,Nat.mul_one,Nat.le_refl,decide_true,CF,Bool.true_and,Cg,Bz,List.drop_zero,vW]
 rfl
section
variable (pu:Af) (n:Nat)
noncomputable def wR (t:Sl) (w:List Int) (f i:Nat) (r:List Int) (U:Nat→Nat) (c:Nat→Nat) (B:Nat→List Int):Option Value:=
 OL pu n f r.length (2 * r.length) t (Int.ofNat w.length) (Int.ofNat i) (U 0) ((B 0).length - U 0) (c 0) (U 1) ((B 1).length - U 1) (c 1) (U 2) ((B 2).length - U 2) (c 2) (U 3) ((B 3).length - U 3) (c 3) (U 4) ((B 4).length - U 4) (c 4)
  (r.map I) ((B 0).map I) ((B 1).map I) ((B 2).map I) ((B 3).map I) ((B 4).map I)
def one (U:Nat→Nat) (K:Nat):Nat→Nat:=fun j=>if j=K then U j+1 else U j
theorem step2 (t:Sl) (w:List Int) (fl:Nat) (ht:t=sl fl w) (f i:Nat) (r:List Int) (U c:Nat→Nat) (B:Nat→List Int) (hi:i < w.length) (hw:w.length < 1000) (hr:r.length < 1000) (K:Nat) (hK:w[i]=Int.ofNat K) (hK5:K < 5) (hU:U K < (B K).length) :
 ∃ c',wR pu n t w (f+1) i r U c B=wR pu n t w f (i+1) (r++[(B K).getD (U K) 0]) (one U K) c' B:=by
 subst ht
 have ea:∀ x:Int,Br (Am 0 (r.map I)) [I x]=(r++[x]).map I:=fun x=>by simp
 have e1:(w.map I)[i]?=some (I (Int.ofNat K)):=by rw[Aja w i hi,hK]
 have e2:((B K).map I)[U K]?=some (I ((B K).getD (U K) 0)):=iF _ _ hU
 have e3:Nat.blt 0 ((B K).length - U K)=true:=by rw[blt_eq];simp;omega
 have e4:Nat.ble 1 ((B K).length - U K)=true:=by rw[ble_eq];simp;omega
 have e5:(B K).length - U K - 1=(B K).length - (U K+1):=by omega
 have g:=I8 r hr
 show ∃ c',MI pu n (OL pu n f) _ _ _ _ _ _ _ _ _ _ _ _ _ _ _ _ _ _ _ _ _ _ _ _ _ _=_
 unfold MI wR
 match K,hK5 with
 | 0, _ =>
  refine⟨fun j=>if j=0 then 2*(c 0 / 2 - 1)+bb (Dp false (Nat.beq (c 0 % 2) 1)) 1 0 else c j,?_⟩
  rw[FD hi]
  simp only[Bh,kL,Ak,Cx,Ac,I4,GX,blt_eq,hi,decide_true,CF,Bool.true_and,BZ,Nat.mul_one,e1,BP,DC i (by omega:i < 1000000),show Nat.beq 0 0=true from rfl]
  rw[blt_eq,decide_eq_true_iff] at e3
  simp only[e3,e4,decide_true,Bool.true_and,Ak,Nat.zero_mul,Nat.add_zero,e2,Ac,BP,g,ea,Bh,kL,one,if_true,show (1:Nat)≠0 from by omega,show (2:Nat)≠0 from by omega,show (3:Nat)≠0 from by omega,show (4:Nat)≠0 from by omega,if_false,List.length_append,List.length_cons,List.length_nil,AA,Nat.add_zero,Nat.zero_add,e5]
 | 1, _ =>
  refine⟨fun j=>if j=1 then 2*(c 1 / 2 - 1)+bb (Dp false (Nat.beq (c 1 % 2) 1)) 1 0 else c j,?_⟩
  rw[FD hi]
  simp only[Bh,kL,Ak,Cx,Ac,I4,GX,blt_eq,hi,decide_true,CF,Bool.true_and,BZ,Nat.mul_one,e1,BP,DC i (by omega:i < 1000000),show Nat.beq 1 0=false from rfl,show Nat.beq 1 1=true from rfl,AA]
  rw[blt_eq,decide_eq_true_iff] at e3
  simp only[e3,e4,decide_true,Bool.true_and,Ak,Nat.zero_mul,Nat.add_zero,e2,Ac,BP,g,ea,Bh,kL,one,if_true,show (0:Nat)≠1 from by omega,show (2:Nat)≠1 from by omega,show (3:Nat)≠1 from by omega,show (4:Nat)≠1 from by omega,if_false,List.length_append,List.length_cons,List.length_nil,AA,Nat.add_zero,Nat.zero_add,e5]
 | 2, _ =>
  refine⟨fun j=>if j=2 then 2*(c 2 / 2 - 1)+bb (Dp false (Nat.beq (c 2 % 2) 1)) 1 0 else c j,?_⟩
  rw[FD hi]
  simp only[Bh,kL,Ak,Cx,Ac,I4,GX,blt_eq,hi,decide_true,CF,Bool.true_and,BZ,Nat.mul_one,e1,BP,DC i (by omega:i < 1000000),show Nat.beq 2 0=false from rfl,show Nat.beq 2 1=false from rfl,show Nat.beq 2 2=true from rfl,AA]
  rw[blt_eq,decide_eq_true_iff] at e3
  simp only[e3,e4,decide_true,Bool.true_and,Ak,Nat.zero_mul,Nat.add_zero,e2,Ac,BP,g,ea,Bh,kL,one,if_true,show (0:Nat)≠2 from by omega,show (1:Nat)≠2 from by omega,show (3:Nat)≠2 from by omega,show (4:Nat)≠2 from by omega,if_false,List.length_append,List.length_cons,List.length_nil,AA,Nat.add_zero,Nat.zero_add,e5]
 | 3, _ =>
  refine⟨fun j=>if j=3 then 2*(c 3 / 2 - 1)+bb (Dp false (Nat.beq (c 3 % 2) 1)) 1 0 else c j,?_⟩
  rw[FD hi]
  simp only[Bh,kL,Ak,Cx,Ac,I4,GX,blt_eq,hi,decide_true,CF,Bool.true_and,BZ,Nat.mul_one,e1,BP,DC i (by omega:i < 1000000),show Nat.beq 3 0=false from rfl,show Nat.beq 3 1=false from rfl,show Nat.beq 3 2=false from rfl,show Nat.beq 3 3=true from rfl,AA]
  rw[blt_eq,decide_eq_true_iff] at e3
  simp only[e3,e4,decide_true,Bool.true_and,Ak,Nat.zero_mul,Nat.add_zero,e2,Ac,BP,g,ea,Bh,kL,one,if_true,show (0:Nat)≠3 from by omega,show (1:Nat)≠3 from by omega,show (2:Nat)≠3 from by omega,show (4:Nat)≠3 from by omega,if_false,List.length_append,List.length_cons,List.length_nil,AA,Nat.add_zero,Nat.zero_add,e5]
 | 4, _ =>
  refine⟨fun j=>if j=4 then 2*(c 4 / 2 - 1)+bb (Dp false (Nat.beq (c 4 % 2) 1)) 1 0 else c j,?_⟩
  rw[FD hi]
  simp only[Bh,kL,Ak,Cx,Ac,I4,GX,blt_eq,hi,decide_true,CF,Bool.true_and,BZ,Nat.mul_one,e1,BP,DC i (by omega:i < 1000000),show Nat.beq 4 0=false from rfl,show Nat.beq 4 1=false from rfl,show Nat.beq 4 2=false from rfl,show Nat.beq 4 3=false from rfl,show Nat.beq 4 4=true from rfl,AA]
  rw[blt_eq,decide_eq_true_iff] at e3
  simp only[e3,e4,decide_true,Bool.true_and,Ak,Nat.zero_mul,Nat.add_zero,e2,Ac,BP,g,ea,Bh,kL,one,if_true,show (0:Nat)≠4 from by omega,show (1:Nat)≠4 from by omega,show (2:Nat)≠4 from by omega,show (3:Nat)≠4 from by omega,if_false,List.length_append,List.length_cons,List.length_nil,AA,Nat.add_zero,Nat.zero_add,e5]

theorem wS (t:Sl) (h w:List Int) (fl:Nat) (ht:t=sl fl w) (k:Int) (Uq:I9 k w) (hk:k≤5) (hw:w.length < 100) (hcnt:∀ j:Nat,j < 5→w.count (j:Int)≤h.count (j:Int)):∀ (f i:Nat) (r:List Int) (c:Nat→Nat),w.length - i < f→i≤w.length→r.length≤i →
 wR pu n t w f i r (fun j=>(w.take i).count (j:Int)) c (fun j=>KX (j:Int) h 0)=some (S 0 (r++Kc h (w.drop i) (w.take i))):=by
 intro f
 induction f with
 | zero=>intro i r c hf;omega
 | succ f ih =>
  intro i r c hf hi hr
  by_cases hlt:i < w.length
  ·have hm:=Uq _ (List.getElem_mem hlt)
   obtain⟨K,hK⟩:∃ K:Nat,w[i]=Int.ofNat K:=⟨w[i].toNat,(Int.toNat_of_nonneg hm.1).symm⟩
   have hK5:K < 5:=by rw[hK] at hm;simp at hm;omega
   have hs:(w.take (i+1))=w.take i++[w[i]]:=by rw[List.take_add_one,List.getElem?_eq_getElem hlt];rfl
   have hlt2:(w.take i).count (K:Int) < h.count (K:Int):=by
    have h1:(w.take (i+1)).count (K:Int)≤w.count (K:Int):=List.Sublist.count_le _ (List.take_sublist _ _)
    rw[hs,List.count_append,hK] at h1
    have:=hcnt K hK5
    simp at h1
    omega
   obtain⟨c',hc'⟩:=step2 pu n t w fl ht f i r (fun j=>(w.take i).count (j:Int)) c (fun j=>KX (j:Int) h 0) hlt (by omega) (by omega) K hK hK5 (by rw[Nh];exact hlt2)
   rw[hc']
   have eU:one (fun j:Nat=>(w.take i).count (j:Int)) K=fun j:Nat=>(w.take (i+1)).count (j:Int):=by
    funext j
    unfold one
    rw[hs,List.count_append,hK,List.count_singleton]
    by_cases hj:j=K
    ·subst hj;simp
    ·rw[if_neg hj]
     have:((Int.ofNat K) == (j:Int))=false:=by simp;omega
     rw[this];simp
   rw[eU,ih (i+1) _ c' (by omega) (by omega) (by simp;omega)]
   have e:w.drop i=w[i]::w.drop (i+1):=List.drop_eq_getElem_cons hlt
   rw[e,OY,←hs,hK,Ni _ _ _ _ hlt2]
   simp
  ·have:i=w.length:=by omega
   subst this
   subst ht
   show MI pu n (OL pu n f) _ _ _ _ _ _ _ _ _ _ _ _ _ _ _ _ _ _ _ _ _ _ _ _ _ _=_
   unfold MI
   rw[FL hlt]
   simp only[Bh,kL,Ak,AA,List.drop_length,Kc,List.append_nil,zK]
end

theorem q58 (k:Nat) (args:List Value):Fh (k+1) 58 args=kW (Fh k) L args:=by kernel_rfl
theorem zL (pu:Af) (fl fl':Nat) (k:Int) (h w:List Int):kW pu L [tr fl fl' k h w]=WJ pu L k (sl fl h) (sl fl' w):=by kernel_rfl
theorem zM (pu:Af) (M fl:Nat) (k:Int) (h:List Int) (t:Sl):WJ pu M k (sl fl h) t=wO pu M k (sl fl h) t h M 0 (fun _=>[]):=rfl
theorem p58 (n fl fl':Nat) (k:Int) (h w:List Int) (hc:chk k h w=0):Fh (n+1) 58 [tr fl fl' k h w]=some (S 0 (Kc h w [])):=by
 obtain⟨h1,h2,h3,h4,h5,h6,h7⟩:=Wo hc
 rw[q58,zL,zM]
 have hL:100 < L:=by show 100 < 1000000;omega
 generalize Fh n=pu
 generalize L=M at *
 rw[wQ pu M k (sl fl h) (sl fl' w) h fl rfl h5 h2 (by omega) M 0 (fun _=>[]) (by omega) (by omega) (fun j=>by simp)]
 simp only[List.nil_append,List.drop_zero]
 have hcnt:∀ j:Nat,j < 5→w.count (j:Int)≤h.count (j:Int):=fun j hj=>by
  by_cases hjk:j < k.toNat
  ·rw[h7 j hjk];exact Nat.le_refl _
  ·rw[K5 h6 (by omega:k≤(j:Int))];exact Nat.zero_le _
 have:=wS pu M (sl fl' w) h w fl' rfl k h6 h2 (by omega) hcnt M 0 [] (fun j=>2*(KX (j:Int) h 0).length) (by omega) (by omega) (by simp)
 simp only[List.nil_append,List.drop_zero,List.take_zero] at this
 rw[←this]
 unfold Dr OM wR
 simp only[Bh,kL,Ak,I4,List.count_nil,Nat.sub_zero,List.length_nil,List.map_nil,Nat.mul_zero]
 rfl
theorem Ub (a:Int):∀ l,less a l≤l.length
 | []=>Nat.le_refl _
 | b :: l => by
  have:=Ub a l
  show (if b < a then 1 else 0)+less a l≤l.length+1
  split <;> omega
theorem wT (l:List Int) (i b:Nat):(⟨l.length - i,b,Aq ((l.length - i)*1) (Am (i*1) (l.map I))⟩:Sl)=sl b (l.drop i):=by
 unfold sl
 simp only[Cg,Bz,Nat.mul_one,List.length_drop,←List.map_drop]
 congr 1
 exact List.take_of_length_le (by simp)

theorem zN (pu:Af) (n:Nat) (ih0:Sl→Int→Sl→Int→Int→Option Value) (s s2:Sl) (N a:Int) (i:Nat) (hi:i < 1000) (b:Nat) (m:List Int) (hm:m.length < 1000):∀ (f j z:Nat),m.length - j < f→j≤m.length→z+m.length < 100000+j →
 OG pu n ih0 f s (Int.ofNat z) a s2 N (Int.ofNat i) (sl b m) (Int.ofNat m.length) (Int.ofNat j)=ih0 s (Int.ofNat (z+less a (m.drop j))) s2 N (Int.ofNat (i+1)):=by
 intro f
 induction f with
 | zero=>intro j z h;omega
 | succ f ih =>
  intro j z h hj hz
  show PP pu n ih0 (OG pu n ih0 f) _ _ _ _ _ _ _ _ _=_
  unfold PP
  by_cases hlt:j < m.length
  ·have e:m.drop j=m[j]::m.drop (j+1):=List.drop_eq_getElem_cons hlt
   rw[FD hlt]
   simp only[Ak,Cx,Ac,I4,GX,blt_eq,hlt,decide_true,CF,Bool.true_and,BZ,Nat.mul_one,Aja m j hlt,BP,PO,DC j (by omega:j < 1000000),DC z (by omega:z < 1000000)]
   rw[e]
   by_cases c:m[j] < a
   ·rw[zC.2 c,Ak,ih (j+1) (z+1) (by omega) (by omega) (by omega)]
    show _=ih0 s (Int.ofNat (z+((if m[j] < a then 1 else 0)+less a (m.drop (j+1))))) s2 N (Int.ofNat (i+1))
    rw[if_pos c,Nat.add_assoc]
   ·rw[vU.2 c,AA,ih (j+1) z (by omega) (by omega) (by omega)]
    show _=ih0 s (Int.ofNat (z+((if m[j] < a then 1 else 0)+less a (m.drop (j+1))))) s2 N (Int.ofNat (i+1))
    rw[if_neg c,Nat.zero_add]
  ·have:j=m.length:=by omega
   subst this
   rw[FL hlt,AA,List.drop_length]
   simp only[SA,DC i (by omega:i < 1000000),less,Nat.add_zero]
theorem l30 (pu:Af) (n:Nat) (hn:100≤n) (l:List Int) (hl:l.length < 50):∀ (f i z:Nat),l.length - i < f→i≤l.length→z≤i*50 →
 IV pu n f (sl 0 l) (Int.ofNat z) (sl 0 l) (Int.ofNat l.length) (Int.ofNat i)=some (.tuple ⟨[I (Int.ofNat (z+inv (l.drop i))),I 0]⟩):=by
 intro f
 induction f with
 | zero=>intro i z h;omega
 | succ f ih =>
  intro i z h hi hz
  show PQ pu n (IV pu n f) _ _ _ _ _=_
  unfold PQ
  by_cases hlt:i < l.length
  ·have e:l.drop i=l[i]::l.drop (i+1):=List.drop_eq_getElem_cons hlt
   have hle:Nat.ble (i+1) l.length=true:=by rw[ble_eq];simp;omega
   rw[FD hlt]
   simp only[Ak,Cx,Ac,I4,GX,blt_eq,hlt,decide_true,CF,Bool.true_and,BZ,Nat.mul_one,Aja l i hlt,BP,DC i (by omega:i < 1000000),show (sl 0 l).fl=0 from rfl,show nt (Nat.beq 0 2)=true from rfl,hle]
   have pd:=wT l (i+1) (bb (an (Nat.beq l.length l.length) (Dp false (Nat.beq 0 1))) 1 0)
   simp only[Nat.mul_one,CF] at pd
   rw[pd]
   have ln:l.length - (i+1)=(l.drop (i+1)).length:=by simp
   rw[ln,show (0:Int)=Int.ofNat 0 from rfl,zN pu n (IV pu n f) (sl 0 l) (sl 0 l) (Int.ofNat l.length) l[i] i (by omega) _ (l.drop (i+1)) (by simp;omega) n 0 z (by simp;omega) (by omega) (by simp;omega),List.drop_zero]
   have lb:=Ub l[i] (l.drop (i+1))
   rw[List.length_drop] at lb
   rw[ih (i+1) (z+less l[i] (l.drop (i+1))) (by omega) (by omega) (by omega),e]
   show _=some (Value.tuple ⟨[I (Int.ofNat (z+(less l[i] (l.drop (i+1))+inv (l.drop (i+1))))),I 0]⟩)
   rw[Nat.add_assoc]
  ·have:i=l.length:=by omega
   subst this
   rw[FL hlt,AA,List.drop_length];rfl

theorem RO (h:List Int):∀ (w pre:List Int),(Kc h w pre).length=w.length
 | [],_=>rfl
 | v::w,pre=>by rw[OY,List.length_cons,RO h w,List.length_cons]
end Go.MdTM
namespace Go.MdM
variable {N N':Nat} {H W H' W':Nat→Int}
theorem OZ (P:Nat→Bn→Bn→Prop)
 (step:∀ c S S',P c S S'→∀ i,i < N→S i=true→(∃ i',i' < N'∧S' i'=true∧P c (del S i) (del S' i'))∨(∃ c',c=c'+1∧P c' (del S i) S'))
 (ev:∀ c S S',P c S S'→Bp N H W S→Bp N' H' W' S'):∀ (k c:Nat) (S S':Bn),card N S≤k→P c S S'→M N H W S≤M N' H' W' S'+c
 | 0,c,S,S',hk,_=>by rw[Jh (by omega)];omega
 | k + 1, c, S, S', hk, hP => by
  by_cases h0:card N S=0
  ·rw[Jh h0];omega
  obtain⟨i,hi,hs,hm⟩:∃ i,i < N∧S i=true∧mx ((els N S).map fun i=>M N H W (del S i))≤M N H W (del S i):=by
   by_cases hz:mx ((els N S).map fun i=>M N H W (del S i))=0
   ·have hl:(els N S).length≠0:=by rw[FM];exact h0
    obtain⟨i,hi⟩:=List.exists_mem_of_length_pos (Nat.pos_of_ne_zero hl)
    exact⟨i,(DT.1 hi).1,(DT.1 hi).2,by omega⟩
   ·obtain⟨i,hi,he⟩:=List.mem_map.1 (R6 hz)
    exact⟨i,(DT.1 hi).1,(DT.1 hi).2,by omega⟩
  have hc:=Fp hi hs
  rw[R7 S h0]
  have ho:=UY (Bp N H W S)
  rcases step c S S' hP i hi hs with⟨i',hi',hs',hP'⟩ | ⟨c',rfl,hP'⟩
  ·have h1:=OZ P step ev k c _ _ (by omega) hP'
   by_cases he:Bp N H W S
   ·have h2:=U0 hi' hs' (ev _ _ _ hP he)
    omega
   ·have h2:=Yi (H:=H') (W:=W') hi' hs'
    rw[SG he];omega
  ·have h1:=OZ P step ev k c' _ _ (by omega) hP'
   omega
theorem jE (S:Bn):M N W H S=M N H W S:=by
 have key:∀ (H W:Nat→Int),M N W H S≤M N H W S:=fun H W=>by
  have := OZ (N := N) (N' := N) (H := W) (W := H) (H' := H) (W' := W) (fun c S S' => c = 0 ∧ S = S') (fun c S S' h i hi hs => .inl ⟨i, hi, h.2 ▸ hs, h.1, by rw [h.2]⟩)
   (fun c S S' h he=>by rw[←h.2];exact fun x=>(he x).symm) (card N S) 0 S S (Nat.le_refl _) ⟨rfl,rfl⟩
  omega
 exact Nat.le_antisymm (key H W) (key W H)
theorem LQ {S:Bn}:Bp N H W S↔((els N S).map H).Perm ((els N S).map W):=by
 have e:∀ (f:Nat→Int) (x:Int),((els N S).map f).count x=cn N S f x:=fun f x=>by
  unfold els cn
  rw[List.count_eq_countP,List.countP_map,List.countP_filter]
  refine List.countP_congr fun i _=>?_
  simp only[Function.comp]
  rw[Bool.and_comm]
 rw[List.perm_iff_count]
 unfold Bp
 constructor
 ·intro h x;rw[e,e];exact h x
 ·intro h x;rw[←e,←e];exact h x
structure Ud (N N':Nat) (φ:Nat→Nat) (S S':Bn):Prop where
 lt:∀ i,i < N→S i=true→φ i < N'
 inj:∀ i j,i < N→j < N→S i=true→S j=true→φ i=φ j→i=j
 im:∀ j,j < N'→(S' j=true↔∃ i,i < N∧S i=true∧φ i=j)
theorem IB {S:Bn} {i j:Nat}:del S i j=true↔S j=true∧j≠i:=by unfold del;simp
theorem Ud.del {φ:Nat→Nat} {S S':Bn} (h:Ud N N' φ S S') {i:Nat} (hi:i < N) (hs:S i=true):Ud N N' φ (del S i) (del S' (φ i)) where
 lt:=fun k hk hd=>h.lt k hk (IB.1 hd).1
 inj:=fun a b ha hb h1 h2 e=>h.inj a b ha hb (IB.1 h1).1 (IB.1 h2).1 e
 im:=fun j hj=>by
  rw[IB,h.im j hj]
  constructor
  ·rintro⟨⟨a,ha,hsa,e⟩,hne⟩
   exact⟨a,ha,IB.2 ⟨hsa,fun h=>hne (by rw[←e,h])⟩,e⟩
  ·rintro⟨a,ha,hda,e⟩
   obtain⟨hsa,hne⟩:=IB.1 hda
   exact⟨⟨a,ha,hsa,e⟩,fun hj=>hne (h.inj a i ha hi hsa hs (by rw[e,hj]))⟩
theorem O0 (S:Bn):(els N S).Nodup:=List.nodup_range.filter _
theorem Ud.perm {φ:Nat→Nat} {S S':Bn} (h:Ud N N' φ S S'):(els N' S').Perm ((els N S).map φ):=by
 refine(List.perm_ext_iff_of_nodup (O0 S') ?_).2 fun j=>?_
 ·unfold List.Nodup
  rw[List.pairwise_map]
  refine List.Pairwise.imp_of_mem ?_ (O0 S)
  intro a b ha hb hne e
  exact hne (h.inj a b (DT.1 ha).1 (DT.1 hb).1 (DT.1 ha).2 (DT.1 hb).2 e)
 ·rw[DT,List.mem_map]
  constructor
  ·rintro⟨hj,hs⟩
   obtain⟨i,hi,hsi,e⟩:=(h.im j hj).1 hs
   exact⟨i,DT.2 ⟨hi,hsi⟩,e⟩
  ·rintro⟨i,hi,e⟩
   obtain⟨hi,hs⟩:=DT.1 hi
   have hl:=h.lt i hi hs
   rw[e] at hl
   exact⟨hl,(h.im j hl).2 ⟨i,hi,hs,e⟩⟩
theorem Ud.card {φ:Nat→Nat} {S S':Bn} (h:Ud N N' φ S S'):card N' S'=card N S:=by
 rw[←FM,←FM,h.perm.length_eq,List.length_map]
def Goes (N:Nat) (φ:Nat→Nat) (g k:Int→Int) (S:Bn) (H W H' W':Nat→Int):Prop:=∀ i,i < N→S i=true→H' (φ i)=g (H i)∧W' (φ i)=g (W i)∧k (g (H i))=H i∧k (g (W i))=W i
theorem Gs {S:Bn} {f g:Nat→Int} (h:∀ i,i < N→S i=true→f i=g i):(els N S).map f=(els N S).map g:=
 List.map_congr_left fun i hi=>h i (DT.1 hi).1 (DT.1 hi).2
theorem Ud.ev {φ:Nat→Nat} {g k:Int→Int} {S S':Bn} (h:Ud N N' φ S S') (hg:Goes N φ g k S H W H' W'):Bp N H W S↔Bp N' H' W' S':=by
 have a1:((els N' S').map H').Perm (((els N S).map H).map g):=by
  refine(h.perm.map H').trans ?_
  rw[List.map_map,List.map_map,Gs (f:=H' ∘ φ) (g:=g ∘ H) fun i hi hs=>(hg i hi hs).1]
 have a2:((els N' S').map W').Perm (((els N S).map W).map g):=by
  refine(h.perm.map W').trans ?_
  rw[List.map_map,List.map_map,Gs (f:=W' ∘ φ) (g:=g ∘ W) fun i hi hs=>(hg i hi hs).2.1]
 have b1:(((els N S).map H).map g).map k=(els N S).map H:=by
  rw[List.map_map,List.map_map];exact Gs fun i hi hs=>(hg i hi hs).2.2.1
 have b2:(((els N S).map W).map g).map k=(els N S).map W:=by
  rw[List.map_map,List.map_map];exact Gs fun i hi hs=>(hg i hi hs).2.2.2
 rw[LQ,LQ]
 constructor
 ·intro he
  exact a1.trans ((he.map g).trans a2.symm)
 ·intro he
  have:=(a1.symm.trans (he.trans a2)).map k
  rwa [b1,b2] at this
theorem Goes.del {φ:Nat→Nat} {g k:Int→Int} {S:Bn} (h:Goes N φ g k S H W H' W') (i:Nat):Goes N φ g k (del S i) H W H' W':=fun a ha hd=>h a ha (IB.1 hd).1
theorem wU {φ:Nat→Nat} {g k:Int→Int} {S S':Bn} (h:Ud N N' φ S S') (hg:Goes N φ g k S H W H' W'):M N' H' W' S'=M N H W S:=by
 have h1 := OZ (N := N) (N' := N') (H := H) (W := W) (H' := H') (W' := W') (fun c S S' => c = 0 ∧ Ud N N' φ S S' ∧ Goes N φ g k S H W H' W')
  (fun c S S' hP i hi hs=>.inl ⟨φ i,hP.2.1.lt i hi hs,(hP.2.1.im _ (hP.2.1.lt i hi hs)).2 ⟨i,hi,hs,rfl⟩,hP.1,hP.2.1.del hi hs,hP.2.2.del i⟩)
  (fun c S S' hP he=>(hP.2.1.ev hP.2.2).1 he) _ 0 S S' (Nat.le_refl _) ⟨rfl,h,hg⟩
 have h2 := OZ (N := N') (N' := N) (H := H') (W := W') (H' := H) (W' := W) (fun c S' S => c = 0 ∧ Ud N N' φ S S' ∧ Goes N φ g k S H W H' W')
  (fun c S' S hP j hj hs => by
    obtain⟨i,hi,hsi,rfl⟩:=(hP.2.1.im j hj).1 hs
    exact .inl ⟨i,hi,hsi,hP.1,hP.2.1.del hi hsi,hP.2.2.del i⟩)
  (fun c S' S hP he=>(hP.2.1.ev hP.2.2).2 he) _ 0 S' S (Nat.le_refl _) ⟨rfl,h,hg⟩
 omega
theorem b1:∀ a b c:Bool,((a && b) && !c)=((a && !c) && b):=by decide
theorem b2:∀ a b c:Bool,((a && !b) && !c)=((a && !c) && !b):=by decide
theorem Xa {g:Int→Int} {S:Bn} (hH:∀ i,i < N→H' i=g (H i)) (hW:∀ i,i < N→W' i=g (W i)) :
 M N H W S≤M N H' W' (fun i=>S i && !(H' i == W' i))+card N (fun i=>S i && (H' i == W' i)):=by
 refine OZ (N:=N) (N':=N) (H:=H) (W:=W) (H':=H') (W':=W') (fun c S S'=>c=Go.MdM.card N (fun i=>S i && (H' i == W' i))∧S'=fun i=>S i && !(H' i == W' i)) ?_ ?_ _ _ S _ (Nat.le_refl _) ⟨rfl,rfl⟩
 ·rintro c S S' ⟨rfl,rfl⟩ i hi hs
  by_cases he:H' i=W' i
  ·right
   have hc:=Fp (N:=N) (S:=fun i=>S i && (H' i == W' i)) (i:=i) hi (by simp[hs,he])
   refine⟨_,hc,?_,?_⟩
   ·refine FK fun j hj=>?_
    exact b1 _ _ _
   ·funext j
    show (S j && !(H' j == W' j))=((S j && !(j == i)) && !(H' j == W' j))
    by_cases hj:j=i
    ·rw[hj,he];simp
    ·rw[show (j == i)=false from by simp[hj]];simp
  ·left
   refine⟨i,hi,by simp[hs,he],?_,?_⟩
   ·refine FK fun j hj=>?_
    show (S j && (H' j == W' j))=((S j && !(j == i)) && (H' j == W' j))
    by_cases hj:j=i
    ·rw[hj,show (H' i == W' i)=false from by simp[he]];simp
    ·rw[show (j == i)=false from by simp[hj]];simp
   ·funext j
    exact b2 _ _ _
 ·rintro c S S' ⟨_,rfl⟩ he x
  have a0:Bp N H' W' S:=by
   rw[LQ]
   have h1:(els N S).map H'=((els N S).map H).map g:=by rw[List.map_map];exact Gs fun i hi _=>hH i hi
   have h2:(els N S).map W'=((els N S).map W).map g:=by rw[List.map_map];exact Gs fun i hi _=>hW i hi
   rw[h1,h2]
   exact(LQ.1 he).map g
  have s1:=Hy (N:=N) (S:=S) (A:=fun i=>S i && !(H' i == W' i)) (B:=fun i=>S i && (H' i == W' i)) H' x (fun i _=>by cases S i <;> cases (H' i == W' i) <;> rfl) (fun i _=>by cases S i <;> cases (H' i == W' i) <;> simp)
  have s2:=Hy (N:=N) (S:=S) (A:=fun i=>S i && !(H' i == W' i)) (B:=fun i=>S i && (H' i == W' i)) W' x (fun i _=>by cases S i <;> cases (H' i == W' i) <;> rfl) (fun i _=>by cases S i <;> cases (H' i == W' i) <;> simp)
  have s3:cn N (fun i=>S i && (H' i == W' i)) H' x=cn N (fun i=>S i && (H' i == W' i)) W' x:=by
   unfold cn
   refine List.countP_congr fun i _=>?_
   by_cases e:H' i=W' i
   ·simp[e]
   ·simp[e]
  have:=a0 x
  omega
end Go.MdM
set_option maxRecDepth 100000
namespace Go.MdTM
open Go.Sp Go.MdT Go.MdM
def K3 (h w:List Int):Bn:=fun i=>!(fn h i == fn w i)
theorem Sd {h w:List Int} (hl:w.length=h.length):∀ i,i < h.length→tb (bv h w) i=K3 h w i:=fun i hi=>by
 unfold K3
 rw[Eo hi,Eo (by omega:i < w.length)]
 exact R9 h w i hi (by omega)
theorem Pp {h w:List Int} (hl:w.length=h.length):CY h w=Int.ofNat (card h.length (K3 h w)) - Int.ofNat (M h.length (fn h) (fn w) (K3 h w)):=by
 unfold CY Co
 rw[FK (Sd hl),HV (Sd hl)]
theorem Ym {h w T U:List Int} (hl:w.length=h.length) (hl2:U.length=T.length) (hc:card T.length (K3 T U)=card h.length (K3 h w)) (hm:M T.length (fn T) (fn U) (K3 T U)=M h.length (fn h) (fn w) (K3 h w)):CY T U=CY h w:=by
 rw[Pp hl,Pp hl2,hc,hm]
theorem RP (h w:List Int):K3 w h=K3 h w:=by
 funext i
 unfold K3
 rw[Bool.beq_comm]
theorem Xb {h w:List Int} (hl:w.length=h.length):CY w h=CY h w:=by
 refine Ym hl hl.symm ?_ ?_
 ·rw[RP,hl]
 ·rw[RP,hl,jE]
structure OA (h w T U:List Int) (φ:Nat→Nat) (g k:Int→Int):Prop where
 lt:∀ i,i < h.length→φ i < T.length
 inj:∀ i j,i < h.length→j < h.length→φ i=φ j→i=j
 hT:∀ i,i < h.length→fn T (φ i)=g (fn h i)
 hU:∀ i,i < h.length→fn U (φ i)=g (fn w i)
 kh:∀ i,i < h.length→k (g (fn h i))=fn h i
 kw:∀ i,i < h.length→k (g (fn w i))=fn w i
 rest:∀ j,j < T.length→(∀ i,i < h.length→φ i≠j)→fn T j=fn U j
theorem OA.emb {h w T U:List Int} {φ:Nat→Nat} {g k:Int→Int} (L:OA h w T U φ g k):Ud h.length T.length φ (K3 h w) (K3 T U) where
 lt:=fun i hi _=>L.lt i hi
 inj:=fun i j hi hj _ _ e=>L.inj i j hi hj e
 im:=fun j hj=>by
  constructor
  ·intro hw
   apply Classical.byContradiction
   intro hn
   by_cases he:∃ i,i < h.length∧φ i=j
   ·obtain⟨i,hi,rfl⟩:=he
    refine hn ⟨i,hi,?_,rfl⟩
    unfold K3 at hw ⊢
    rw[L.hT i hi,L.hU i hi] at hw
    simp only[Bool.not_eq_true',beq_eq_false_iff_ne,ne_eq] at hw ⊢
    exact fun e=>hw (by rw[e])
   ·have:=L.rest j hj fun i hi e=>he ⟨i,hi,e⟩
    unfold K3 at hw
    simp[this] at hw
  ·rintro⟨i,hi,hs,rfl⟩
   unfold K3 at hs ⊢
   rw[L.hT i hi,L.hU i hi]
   simp only[Bool.not_eq_true',beq_eq_false_iff_ne,ne_eq] at hs ⊢
   intro e
   have:=congrArg k e
   rw[L.kh i hi,L.kw i hi] at this
   exact hs this
theorem OA.goes {h w T U:List Int} {φ:Nat→Nat} {g k:Int→Int} (L:OA h w T U φ g k) (S:Bn):Goes h.length φ g k S (fn h) (fn w) (fn T) (fn U):=fun i hi _=>⟨L.hT i hi,L.hU i hi,L.kh i hi,L.kw i hi⟩
theorem OA.M {h w T U:List Int} {φ:Nat→Nat} {g k:Int→Int} (L:OA h w T U φ g k):M T.length (fn T) (fn U) (K3 T U)=M h.length (fn h) (fn w) (K3 h w):=wU L.emb (L.goes _)
theorem OA.CY {h w T U:List Int} {φ:Nat→Nat} {g k:Int→Int} (L:OA h w T U φ g k) (hl:w.length=h.length) (hl2:U.length=T.length):CY T U=CY h w:=Ym hl hl2 L.emb.card L.M
theorem Pq {g:Int→Int} {l:List Int} {i:Nat} (hi:i < l.length):fn (l.map g) i=g (fn l i):=by
 rw[Eo (by simpa using hi),Eo hi];simp
theorem Wp {h w:List Int} (g:Int→Int) (hl:w.length=h.length):CY (h.map g) (w.map g)≤CY h w:=by
 rw[Pp hl,Pp (by simp[hl])]
 rw[List.length_map]
 have h1:=Xa (N:=h.length) (H:=fn h) (W:=fn w) (H':=fn (h.map g)) (W':=fn (w.map g)) (g:=g) (S:=K3 h w) (fun i hi=>Pq hi) (fun i hi=>Pq (by omega))
 have h2:∀ i,i < h.length→(K3 h w i && !(fn (h.map g) i == fn (w.map g) i))=K3 (h.map g) (w.map g) i:=fun i hi=>by
  unfold K3
  rw[Pq hi,Pq (by omega:i < w.length)]
  by_cases e:fn h i=fn w i
  ·simp[e]
  ·by_cases e2:g (fn h i)=g (fn w i) <;> simp[e,e2]
 rw[HV h2] at h1
 have h3 := Kb (N := h.length) (S := K3 h w) (A := fun i => K3 h w i && !(fn (h.map g) i == fn (w.map g) i)) (B := fun i => K3 h w i && (fn (h.map g) i == fn (w.map g) i))
  (fun i _=>by cases K3 h w i <;> cases (fn (h.map g) i == fn (w.map g) i) <;> rfl) (fun i _=>by cases K3 h w i <;> cases (fn (h.map g) i == fn (w.map g) i) <;> simp)
 rw[FK h2] at h3
 show ((_:Nat):Int) - ((_:Nat):Int)≤((_:Nat):Int) - ((_:Nat):Int)
 omega
theorem O1 {l:List Int} {r i:Nat}:fn (l.eraseIdx r) i=fn l (if i < r then i else i+1):=by
 unfold fn
 rw[List.getD_eq_getElem?_getD,List.getD_eq_getElem?_getD,List.getElem?_eraseIdx]
 by_cases h:i < r
 ·rw[if_pos h,if_pos h]
 ·rw[if_neg h,if_neg h]
theorem Wq {h w:List Int} (hl:w.length=h.length) {r:Nat} (hr:r < h.length) (he:fn h r=fn w r):CY (h.eraseIdx r) (w.eraseIdx r)=CY h w:=by
 have l1:(h.eraseIdx r).length=h.length - 1:=by rw[List.length_eraseIdx,if_pos hr]
 have l2:(w.eraseIdx r).length=h.length - 1:=by rw[List.length_eraseIdx,if_pos (by omega)];omega
 refine(OA.CY (φ:=fun i=>if i < r then i else i+1) (g:=id) (k:=id) ⟨?_,?_,?_,?_,fun _ _=>rfl,fun _ _=>rfl,?_⟩ (by omega) hl).symm
 ·intro i hi;rw[l1] at hi;show (if i < r then i else i+1) < h.length;split <;> omega
 ·intro i j _ _ e
  replace e:(if i < r then i else i+1)=(if j < r then j else j+1):=e
  split at e <;> split at e <;> omega
 ·intro i _;exact O1.symm
 ·intro i _;exact O1.symm
 ·intro j hj hn
  by_cases e:j=r
  ·rw[e,he]
  ·exfalso
   by_cases h1:j < r
   ·exact hn j (by omega) (by show (if j < r then j else j+1)=j;rw[if_pos h1])
   ·refine hn (j - 1) (by omega) ?_
    show (if j - 1 < r then j - 1 else j - 1+1)=j
    rw[if_neg (by omega)];omega
structure Gv (K:Nat) (h w:List Int):Prop where
 k1:1≤K
 k5:K≤5
 n1:1≤h.length
 n10:h.length≤10
 len:w.length=h.length
 ih:I9 K h
 iw:I9 K w
 cnt:∀ v,h.count v=w.count v
theorem Gv.chk {K:Nat} {h w:List Int} (t:Gv K h w):chk K h w=0:=by
 unfold MdTM.chk
 have e:Yh (K:Int).toNat h w:=fun x _=>t.cnt x
 rw[Gn ⟨by have:=t.k1;omega,by have:=t.k5;omega⟩,Gp (by have:=t.n1;omega),Gp (by have:=t.n10;omega),Gn t.len,Gn ⟨t.ih,t.iw⟩,Gn e]
theorem Gv.ok {K:Nat} {h w:List Int} (t:Gv K h w):Ok K h w:=wK t.chk
theorem Gv.swap {K:Nat} {h w:List Int} (t:Gv K h w):Gv K w h:=⟨t.k1,t.k5,by have:=t.n1;have:=t.len;omega,by have:=t.n10;have:=t.len;omega,t.len.symm,t.iw,t.ih,fun v=>(t.cnt v).symm⟩
theorem Ws {K:Nat} {h w:List Int} (t:Gv K h w):(C8 h w).length=M h.length (fn h) (fn w) (K3 h w):=by
 rw[t.ok.ln,HV (Sd t.len)]
theorem Gv.map {K:Nat} {h w:List Int} (t:Gv K h w) {g:Int→Int} (hg:∀ x:Int,0≤x∧x < K→0≤g x∧g x < K):Gv K (h.map g) (w.map g) where
 k1:=t.k1
 k5:=t.k5
 n1:=by rw[List.length_map];exact t.n1
 n10:=by rw[List.length_map];exact t.n10
 len:=by rw[List.length_map,List.length_map];exact t.len
 ih:=fun x hx=>by obtain⟨y,hy,rfl⟩:=List.mem_map.1 hx;exact hg y (t.ih y hy)
 iw:=fun x hx=>by obtain⟨y,hy,rfl⟩:=List.mem_map.1 hx;exact hg y (t.iw y hy)
 cnt:=fun v=>((List.perm_iff_count.2 t.cnt).map g).count_eq v
theorem LJ {l:List Int} {r:Nat} (hr:r < l.length) (v:Int):l.count v=(l.eraseIdx r).count v+if l[r]=v then 1 else 0:=by
 have e:=List.take_append_drop r l
 rw[List.drop_eq_getElem_cons hr] at e
 have e2:l.count v=(l.take r++l[r]::l.drop (r+1)).count v:=by rw[e]
 rw[e2,List.eraseIdx_eq_take_drop_succ,List.count_append,List.count_append,List.count_cons]
 simp
 omega
theorem Gv.erase {K:Nat} {h w:List Int} (t:Gv K h w) {r:Nat} (hr:r < h.length) (he:fn h r=fn w r) (h2:1 < h.length):Gv K (h.eraseIdx r) (w.eraseIdx r) where
 k1:=t.k1
 k5:=t.k5
 n1:=by rw[List.length_eraseIdx,if_pos hr];omega
 n10:=by rw[List.length_eraseIdx,if_pos hr];have:=t.n10;omega
 len:=by have:=t.len;rw[List.length_eraseIdx,List.length_eraseIdx,if_pos hr,if_pos (by omega)];omega
 ih:=fun x hx=>t.ih x (List.mem_of_mem_eraseIdx hx)
 iw:=fun x hx=>t.iw x (List.mem_of_mem_eraseIdx hx)
 cnt:=fun v=>by
  have hw:r < w.length:=by have:=t.len;omega
  have e1:=LJ hr v
  have e2:=LJ hw v
  rw[Eo hr,Eo hw] at he
  have:=t.cnt v
  rw[he] at e1
  omega
end Go.MdTM
