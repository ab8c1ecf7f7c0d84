/- The plain law of MendRings: a ring is searched for. -/
import Derived.Test.YtlgmapibifphaaaDoorMnNLaw13x
import Derived.Test.YtlgmapibifphaaaDoorSpItx
import Derived.Test.YtlgmapibifphaaaDoorSpObjx

set_option maxRecDepth 100000
namespace Go.MdM
variable {N:Nat} {H W:Nat→Int}
end Go.MdM
namespace Go.MnNM
open Go.Sp Go.MnN Go.MdM

def Qr (h w:List Int) (r:Nat):Bn→Prop:=fun R=>Bp h.length (fn h) (fn w) R∧M h.length (fn h) (fn w) R=r
noncomputable def fd (h w:List Int) (r f d:Nat) (R:Bn) (last:Nat):Nat→Option (List Nat):=fun i=>if fn h i=fn w last then (YC h.length (fn h) (fn w) (Qr h w r) f d (del R i) i).map (i :: ·) else none
section
variable (fl fl':Nat) (k:Int) (h w:List Int) (hN:h.length≤10) (hw:w.length=h.length) (hk:TW h) (hkw:TW w)
include hN hw
include hk hkw
end
end Go.MnNM
set_option maxRecDepth 100000
namespace Go.MdM
variable {N:Nat} {H W:Nat→Int}
end Go.MdM
namespace Go.MnNM
open Go.Sp Go.MnN Go.MdM

theorem zP (pu:Af):NL (fun s=>Zv (Yy pu 1000000 (Int.ofNat s)) (Int.ofNat ((els 10 (tb s)).headD 16))) 1024=true:=by kernel_rfl
theorem p67 (n s:Nat) (hs:s < 1024):FD (n+1) 67 [.int .u16 (Int.ofNat s)]=some (I (Int.ofNat ((els 10 (tb s)).headD 16))):=by
 refine Eq.trans (b:=Yy (FD n) 1000000 (Int.ofNat s)) (by kernel_rfl) ?_
 exact UT (Rp (zP _) s hs)
section
variable (fl fl':Nat) (k:Int) (h w:List Int) (hN:h.length≤10) (hw:w.length=h.length) (hk:TW h) (hkw:TW w)
include hN hw hk hkw
end
end Go.MnNM
namespace Go.MdV
def occ (v:Int):List Int→Nat→Nat→Nat
 | [],_,i=>i
 | x::h,c,i=>if x=v then (match c with | 0=>i | c+1=>occ v h c (i+1)) else occ v h c (i+1)
def srcs (h:List Int):List Int→List Int→List Int
 | [],_=>[]
 | v::w,pre=>(occ v h (pre.count v) 0:Int)::srcs h w (pre++[v])
def less (a:Int):List Int→Nat
 | []=>0
 | b::l=>(if b < a then 1 else 0)+less a l
def inv:List Int→Nat
 | []=>0
 | a::l=>less a l+inv l
end Go.MdV
set_option maxRecDepth 100000
namespace Go.MnNM
open Go.Sp Go.MnN Go.MdV
theorem XP {k:Int} {h w:List Int} (hc:chk k h w=0):1≤k∧k≤5∧h.length≤10∧w.length=h.length∧JP k h∧JP k w∧dC k.toNat h w:=by
 unfold chk at hc
 by_cases h1:1≤k∧k≤5
 ·rw[Gt h1] at hc
  by_cases h2:h.length=0
  ·rw[Gt h2] at hc;omega
  ·rw[Gu h2] at hc
   by_cases h3:10 < h.length
   ·rw[Gt h3] at hc;omega
   ·rw[Gu h3] at hc
    by_cases h4:w.length=h.length
    ·rw[Gt h4] at hc
     by_cases h5:JP k h∧JP k w
     ·rw[Gt h5] at hc
      by_cases h6:dC k.toNat h w
      ·exact⟨h1.1,h1.2,by omega,h4,h5.1,h5.2,h6⟩
      ·rw[Gu h6] at hc;omega
     ·rw[Gu h5] at hc;omega
    ·rw[Gu h4] at hc;omega
 ·rw[Gu h1] at hc;omega
def K8 (v:Int):List Int→Nat→List Int
 | [],_=>[]
 | x::h,i=>if x=v then (i:Int)::K8 v h (i+1) else K8 v h (i+1)
theorem Wu (v x:Int) (h:List Int) (i:Nat):K8 v (x::h) i=if x=v then (i:Int)::K8 v h (i+1) else K8 v h (i+1):=rfl
theorem OM (v:Int):∀ (h:List Int) (i:Nat),(K8 v h i).length=h.count v
 | [],i=>rfl
 | x :: h, i => by
  unfold K8
  by_cases hx:x=v
  ·rw[if_pos hx,hx,List.count_cons_self,List.length_cons,OM v h]
  ·rw[if_neg hx,List.count_cons_of_ne hx,OM v h]
theorem OO (v:Int):∀ (h:List Int) (i c:Nat),c < h.count v→(K8 v h i).getD c 0=(occ v h c i:Int)
 | [],i,c,hc=>by simp at hc
 | x :: h, i, c, hc => by
  unfold K8 occ
  by_cases hx:x=v
  ·rw[if_pos hx,if_pos hx]
   rw[hx,List.count_cons_self] at hc
   cases c with
   | zero=>rfl
   | succ c=>exact OO v h (i+1) c (by omega)
  ·rw[if_neg hx,if_neg hx]
   rw[List.count_cons_of_ne hx] at hc
   exact OO v h (i+1) c hc

theorem Pq (h:List Int) (v:Int) (w pre:List Int):srcs h (v::w) pre=(occ v h (pre.count v) 0:Int)::srcs h w (pre++[v]):=rfl
section
variable (pu:Af) (n:Nat)
noncomputable def zQ (k:Int) (s t:Sl) (h:List Int) (f i:Nat) (A:Nat→List Int):Option Value:=
 Pj pu n f s (Int.ofNat h.length) (Int.ofNat i) k s t (A 0).length (2 * (A 0).length) (A 1).length (2 * (A 1).length) (A 2).length (2 * (A 2).length) (A 3).length (2 * (A 3).length) (A 4).length (2 * (A 4).length)
  ((A 0).map I) ((A 1).map I) ((A 2).map I) ((A 3).map I) ((A 4).map I)
noncomputable def Dn (k:Int) (s t:Sl) (A:Nat→List Int):Option Value:=
 Pi pu n k s t (A 0).length (2 * (A 0).length) (A 1).length (2 * (A 1).length) (A 2).length (2 * (A 2).length) (A 3).length (2 * (A 3).length) (A 4).length (2 * (A 4).length)
  ((A 0).map I) ((A 1).map I) ((A 2).map I) ((A 3).map I) ((A 4).map I)
def put (A:Nat→List Int) (K i:Nat):Nat→List Int:=fun j=>if j=K then A j++[(i:Int)] else A j
theorem zR (k:Int) (s t:Sl) (h:List Int) (fl:Nat) (hs:s=sl fl h) (f i:Nat) (A:Nat→List Int) (hA:∀ j,(A j).length < 1000) (hi:i < h.length) (hh:h.length < 1000) (K:Nat) (hK:h[i]=Int.ofNat K) (hK5:K < 5) :
 zQ pu n k s t h (f+1) i A=zQ pu n k s t h f (i+1) (put A K i):=by
 subst hs
 show OC pu n (Pj pu n f) _ _ _ _ _ _ _ _ _ _ _ _ _ _ _ _ _ _ _ _ _=_
 unfold OC zQ
 have ea:∀ r:List Int,Br (Am 0 (r.map I)) [I (Int.ofNat i)]=(r++[(i:Int)]).map I:=fun r=>by simp
 have e1:(h.map I)[i]?=some (I (Int.ofNat K)):=by rw[Aja h i hi,hK]
 rw[Fp hi]
 simp only[Bh,kL,Ak,Cx,Ac,I4,GX,blt_eq,hi,decide_true,CF,Bool.true_and,BZ,Nat.mul_one,e1,BP,DC i (by omega:i < 1000000)]
 match K,hK5 with
 | 0,_=>simp only[show Nat.beq 0 0=true from rfl,Ak,MG _ (hA 0),ea,Bh,kL,put,if_true,show (1:Nat)≠0 from by omega,show (2:Nat)≠0 from by omega,show (3:Nat)≠0 from by omega,show (4:Nat)≠0 from by omega,if_false,List.length_append,List.length_cons,List.length_nil,AA,Nat.add_zero,Nat.zero_add]
 | 1,_=>simp only[show Nat.beq 1 0=false from rfl,show Nat.beq 1 1=true from rfl,Ak,MG _ (hA 1),ea,Bh,kL,put,if_true,show (0:Nat)≠1 from by omega,show (2:Nat)≠1 from by omega,show (3:Nat)≠1 from by omega,show (4:Nat)≠1 from by omega,if_false,List.length_append,List.length_cons,List.length_nil,AA,Nat.add_zero,Nat.zero_add]
 | 2,_=>simp only[show Nat.beq 2 0=false from rfl,show Nat.beq 2 1=false from rfl,show Nat.beq 2 2=true from rfl,Ak,MG _ (hA 2),ea,Bh,kL,put,if_true,show (0:Nat)≠2 from by omega,show (1:Nat)≠2 from by omega,show (3:Nat)≠2 from by omega,show (4:Nat)≠2 from by omega,if_false,List.length_append,List.length_cons,List.length_nil,AA,Nat.add_zero,Nat.zero_add]
 | 3,_=>simp only[show Nat.beq 3 0=false from rfl,show Nat.beq 3 1=false from rfl,show Nat.beq 3 2=false from rfl,show Nat.beq 3 3=true from rfl,Ak,MG _ (hA 3),ea,Bh,kL,put,if_true,show (0:Nat)≠3 from by omega,show (1:Nat)≠3 from by omega,show (2:Nat)≠3 from by omega,show (4:Nat)≠3 from by omega,if_false,List.length_append,List.length_cons,List.length_nil,AA,Nat.add_zero,Nat.zero_add]
 | 4,_=>simp only[show Nat.beq 4 0=false from rfl,show Nat.beq 4 1=false from rfl,show Nat.beq 4 2=false from rfl,show Nat.beq 4 3=false from rfl,show Nat.beq 4 4=true from rfl,Ak,MG _ (hA 4),ea,Bh,kL,put,if_true,show (0:Nat)≠4 from by omega,show (1:Nat)≠4 from by omega,show (2:Nat)≠4 from by omega,show (3:Nat)≠4 from by omega,if_false,List.length_append,List.length_cons,List.length_nil,AA,Nat.add_zero,Nat.zero_add]
theorem zS (k:Int) (s t:Sl) (h:List Int) (fl:Nat) (hs:s=sl fl h) (UX:JP k h) (hk:k≤5) (hh:h.length < 100):∀ (f i:Nat) (A:Nat→List Int),h.length - i < f→i≤h.length→(∀ j,(A j).length≤i) →
 zQ pu n k s t h f i A=Dn pu n k s t (fun j=>A j++K8 (j:Int) (h.drop i) i):=by
 intro f
 induction f with
 | zero=>intro i A hf;omega
 | succ f ih =>
  intro i A hf hi hA
  by_cases hlt:i < h.length
  ·have hm:=UX _ (List.getElem_mem hlt)
   obtain⟨K,hK⟩:∃ K:Nat,h[i]=Int.ofNat K:=⟨h[i].toNat,(Int.toNat_of_nonneg hm.1).symm⟩
   have hK5:K < 5:=by rw[hK] at hm;simp at hm;omega
   rw[zR pu n k s t h fl hs f i A (fun j=>by have:=hA j;omega) hlt (by omega) K hK hK5,ih (i+1) (put A K i) (by omega) (by omega) (fun j=>by have:=hA j;unfold put;split <;> simp <;> omega)]
   congr 1
   funext j
   have e:h.drop i=h[i]::h.drop (i+1):=List.drop_eq_getElem_cons hlt
   rw[e,hK,Wu]
   unfold put
   by_cases hj:j=K
   ·subst hj
    rw[if_pos rfl,if_pos (show Int.ofNat j=(j:Int) from rfl)];simp
   ·rw[if_neg hj,if_neg (by simp;omega)]
  ·have:i=h.length:=by omega
   subst this
   subst hs
   show OC pu n (Pj pu n f) _ _ _ _ _ _ _ _ _ _ _ _ _ _ _ _ _ _ _ _ _=_
   unfold OC
   rw[FL hlt]
   simp only[Bh,kL,Ak,AA,List.drop_length,K8,List.append_nil]
   rfl
end
theorem Abb (pu:Af) (n c:Nat) (r:List Int):Pg pu n r.length c (r.map I)=some (S 0 r):=by
 unfold Pg
 simp only[Bh,kL,Ak,ble_eq,AV,List.length_map,Nat.zero_add,Nat.mul_one,Nat.le_refl,decide_true,CF,Bool.true_and,Cg,Bz,List.drop_zero,yV]
 rfl
section
variable (pu:Af) (n:Nat)
noncomputable def zT (t:Sl) (w:List Int) (f i:Nat) (r:List Int) (U:Nat→Nat) (c:Nat→Nat) (B:Nat→List Int):Option Value:=
 Ph pu n f r.length (2 * r.length) t (Int.ofNat w.length) (Int.ofNat i) (U 0) ((B 0).length - U 0) (c 0) (U 1) ((B 1).length - U 1) (c 1) (U 2) ((B 2).length - U 2) (c 2) (U 3) ((B 3).length - U 3) (c 3) (U 4) ((B 4).length - U 4) (c 4)
  (r.map I) ((B 0).map I) ((B 1).map I) ((B 2).map I) ((B 3).map I) ((B 4).map I)
def one (U:Nat→Nat) (K:Nat):Nat→Nat:=fun j=>if j=K then U j+1 else U j
theorem step2 (t:Sl) (w:List Int) (fl:Nat) (ht:t=sl fl w) (f i:Nat) (r:List Int) (U c:Nat→Nat) (B:Nat→List Int) (hi:i < w.length) (hw:w.length < 1000) (hr:r.length < 1000) (K:Nat) (hK:w[i]=Int.ofNat K) (hK5:K < 5) (hU:U K < (B K).length) :
 ∃ c',zT pu n t w (f+1) i r U c B=zT pu n t w f (i+1) (r++[(B K).getD (U K) 0]) (one U K) c' B:=by
 subst ht
 have ea:∀ x:Int,Br (Am 0 (r.map I)) [I x]=(r++[x]).map I:=fun x=>by simp
 have e1:(w.map I)[i]?=some (I (Int.ofNat K)):=by rw[Aja w i hi,hK]
 have e2:((B K).map I)[U K]?=some (I ((B K).getD (U K) 0)):=nR _ _ hU
 have e3:Nat.blt 0 ((B K).length - U K)=true:=by rw[blt_eq];simp;omega
 have e4:Nat.ble 1 ((B K).length - U K)=true:=by rw[ble_eq];simp;omega
 have e5:(B K).length - U K - 1=(B K).length - (U K+1):=by omega
 have g:=MG r hr
 show ∃ c',OB pu n (Ph pu n f) _ _ _ _ _ _ _ _ _ _ _ _ _ _ _ _ _ _ _ _ _ _ _ _ _ _=_
 unfold OB zT
 match K,hK5 with
 | 0, _ =>
  refine⟨fun j=>if j=0 then 2*(c 0 / 2 - 1)+bb (Dp false (Nat.beq (c 0 % 2) 1)) 1 0 else c j,?_⟩
  rw[Fp hi]
  simp only[Bh,kL,Ak,Cx,Ac,I4,GX,blt_eq,hi,decide_true,CF,Bool.true_and,BZ,Nat.mul_one,e1,BP,DC i (by omega:i < 1000000),show Nat.beq 0 0=true from rfl]
  rw[blt_eq,decide_eq_true_iff] at e3
  simp only[e3,e4,decide_true,Bool.true_and,Ak,Nat.zero_mul,Nat.add_zero,e2,Ac,BP,g,ea,Bh,kL,one,if_true,show (1:Nat)≠0 from by omega,show (2:Nat)≠0 from by omega,show (3:Nat)≠0 from by omega,show (4:Nat)≠0 from by omega,if_false,List.length_append,List.length_cons,List.length_nil,AA,Nat.add_zero,Nat.zero_add,e5]
 | 1, _ =>
  refine⟨fun j=>if j=1 then 2*(c 1 / 2 - 1)+bb (Dp false (Nat.beq (c 1 % 2) 1)) 1 0 else c j,?_⟩
  rw[Fp hi]
  simp only[Bh,kL,Ak,Cx,Ac,I4,GX,blt_eq,hi,decide_true,CF,Bool.true_and,BZ,Nat.mul_one,e1,BP,DC i (by omega:i < 1000000),show Nat.beq 1 0=false from rfl,show Nat.beq 1 1=true from rfl,AA]
  rw[blt_eq,decide_eq_true_iff] at e3
  simp only[e3,e4,decide_true,Bool.true_and,Ak,Nat.zero_mul,Nat.add_zero,e2,Ac,BP,g,ea,Bh,kL,one,if_true,show (0:Nat)≠1 from by omega,show (2:Nat)≠1 from by omega,show (3:Nat)≠1 from by omega,show (4:Nat)≠1 from by omega,if_false,List.length_append,List.length_cons,List.length_nil,AA,Nat.add_zero,Nat.zero_add,e5]
 | 2, _ =>
  refine⟨fun j=>if j=2 then 2*(c 2 / 2 - 1)+bb (Dp false (Nat.beq (c 2 % 2) 1)) 1 0 else c j,?_⟩
  rw[Fp hi]
  simp only[Bh,kL,Ak,Cx,Ac,I4,GX,blt_eq,hi,decide_true,CF,Bool.true_and,BZ,Nat.mul_one,e1,BP,DC i (by omega:i < 1000000),show Nat.beq 2 0=false from rfl,show Nat.beq 2 1=false from rfl,show Nat.beq 2 2=true from rfl,AA]
  rw[blt_eq,decide_eq_true_iff] at e3
  simp only[e3,e4,decide_true,Bool.true_and,Ak,Nat.zero_mul,Nat.add_zero,e2,Ac,BP,g,ea,Bh,kL,one,if_true,show (0:Nat)≠2 from by omega,show (1:Nat)≠2 from by omega,show (3:Nat)≠2 from by omega,show (4:Nat)≠2 from by omega,if_false,List.length_append,List.length_cons,List.length_nil,AA,Nat.add_zero,Nat.zero_add,e5]
 | 3, _ =>
  refine⟨fun j=>if j=3 then 2*(c 3 / 2 - 1)+bb (Dp false (Nat.beq (c 3 % 2) 1)) 1 0 else c j,?_⟩
  rw[Fp hi]
  simp only[Bh,kL,Ak,Cx,Ac,I4,GX,blt_eq,hi,decide_true,CF,Bool.true_and,BZ,Nat.mul_one,e1,BP,DC i (by omega:i < 1000000),show Nat.beq 3 0=false from rfl,show Nat.beq 3 1=false from rfl,show Nat.beq 3 2=false from rfl,show Nat.beq 3 3=true from rfl,AA]
  rw[blt_eq,decide_eq_true_iff] at e3
  simp only[e3,e4,decide_true,Bool.true_and,Ak,Nat.zero_mul,Nat.add_zero,e2,Ac,BP,g,ea,Bh,kL,one,if_true,show (0:Nat)≠3 from by omega,show (1:Nat)≠3 from by omega,show (2:Nat)≠3 from by omega,show (4:Nat)≠3 from by omega,if_false,List.length_append,List.length_cons,List.length_nil,AA,Nat.add_zero,Nat.zero_add,e5]
 | 4, _ =>
  refine⟨fun j=>if j=4 then 2*(c 4 / 2 - 1)+bb (Dp false (Nat.beq (c 4 % 2) 1)) 1 0 else c j,?_⟩
  rw[Fp hi]
  simp only[Bh,kL,Ak,Cx,Ac,I4,GX,blt_eq,hi,decide_true,CF,Bool.true_and,BZ,Nat.mul_one,e1,BP,DC i (by omega:i < 1000000),show Nat.beq 4 0=false from rfl,show Nat.beq 4 1=false from rfl,show Nat.beq 4 2=false from rfl,show Nat.beq 4 3=false from rfl,show Nat.beq 4 4=true from rfl,AA]
  rw[blt_eq,decide_eq_true_iff] at e3
  simp only[e3,e4,decide_true,Bool.true_and,Ak,Nat.zero_mul,Nat.add_zero,e2,Ac,BP,g,ea,Bh,kL,one,if_true,show (0:Nat)≠4 from by omega,show (1:Nat)≠4 from by omega,show (2:Nat)≠4 from by omega,show (3:Nat)≠4 from by omega,if_false,List.length_append,List.length_cons,List.length_nil,AA,Nat.add_zero,Nat.zero_add,e5]

theorem zU (t:Sl) (h w:List Int) (fl:Nat) (ht:t=sl fl w) (k:Int) (UX:JP k w) (hk:k≤5) (hw:w.length < 100) (hcnt:∀ j:Nat,j < 5→w.count (j:Int)≤h.count (j:Int)):∀ (f i:Nat) (r:List Int) (c:Nat→Nat),w.length - i < f→i≤w.length→r.length≤i →
 zT pu n t w f i r (fun j=>(w.take i).count (j:Int)) c (fun j=>K8 (j:Int) h 0)=some (S 0 (r++srcs h (w.drop i) (w.take i))):=by
 intro f
 induction f with
 | zero=>intro i r c hf;omega
 | succ f ih =>
  intro i r c hf hi hr
  by_cases hlt:i < w.length
  ·have hm:=UX _ (List.getElem_mem hlt)
   obtain⟨K,hK⟩:∃ K:Nat,w[i]=Int.ofNat K:=⟨w[i].toNat,(Int.toNat_of_nonneg hm.1).symm⟩
   have hK5:K < 5:=by rw[hK] at hm;simp at hm;omega
   have hs:(w.take (i+1))=w.take i++[w[i]]:=by rw[List.take_add_one,List.getElem?_eq_getElem hlt];rfl
   have hlt2:(w.take i).count (K:Int) < h.count (K:Int):=by
    have h1:(w.take (i+1)).count (K:Int)≤w.count (K:Int):=List.Sublist.count_le _ (List.take_sublist _ _)
    rw[hs,List.count_append,hK] at h1
    have:=hcnt K hK5
    simp at h1
    omega
   obtain⟨c',hc'⟩:=step2 pu n t w fl ht f i r (fun j=>(w.take i).count (j:Int)) c (fun j=>K8 (j:Int) h 0) hlt (by omega) (by omega) K hK hK5 (by rw[OM];exact hlt2)
   rw[hc']
   have eU:one (fun j:Nat=>(w.take i).count (j:Int)) K=fun j:Nat=>(w.take (i+1)).count (j:Int):=by
    funext j
    unfold one
    rw[hs,List.count_append,hK,List.count_singleton]
    by_cases hj:j=K
    ·subst hj;simp
    ·rw[if_neg hj]
     have:((Int.ofNat K) == (j:Int))=false:=by simp;omega
     rw[this];simp
   rw[eU,ih (i+1) _ c' (by omega) (by omega) (by simp;omega)]
   have e:w.drop i=w[i]::w.drop (i+1):=List.drop_eq_getElem_cons hlt
   rw[e,Pq,←hs,hK,OO _ _ _ _ hlt2]
   simp
  ·have:i=w.length:=by omega
   subst this
   subst ht
   show OB pu n (Ph pu n f) _ _ _ _ _ _ _ _ _ _ _ _ _ _ _ _ _ _ _ _ _ _ _ _ _ _=_
   unfold OB
   rw[FL hlt]
   simp only[Bh,kL,Ak,AA,List.drop_length,srcs,List.append_nil,Abb]
end

theorem q58 (k:Nat) (args:List Value):FD (k+1) 58 args=pM (FD k) L args:=by kernel_rfl
theorem Abc (pu:Af) (fl fl':Nat) (k:Int) (h w:List Int):pM pu L [tr fl fl' k h w]=Yw pu L k (sl fl h) (sl fl' w):=by kernel_rfl
theorem Abd (pu:Af) (M fl:Nat) (k:Int) (h:List Int) (t:Sl):Yw pu M k (sl fl h) t=zQ pu M k (sl fl h) t h M 0 (fun _=>[]):=rfl
theorem p58 (n fl fl':Nat) (k:Int) (h w:List Int) (hc:chk k h w=0):FD (n+1) 58 [tr fl fl' k h w]=some (S 0 (srcs h w [])):=by
 obtain⟨h1,h2,h3,h4,h5,h6,h7⟩:=XP hc
 rw[q58,Abc,Abd]
 have hL:100 < L:=by show 100 < 1000000;omega
 generalize FD n=pu
 generalize L=M at *
 rw[zS pu M k (sl fl h) (sl fl' w) h fl rfl h5 h2 (by omega) M 0 (fun _=>[]) (by omega) (by omega) (fun j=>by simp)]
 simp only[List.nil_append,List.drop_zero]
 have hcnt:∀ j:Nat,j < 5→w.count (j:Int)≤h.count (j:Int):=fun j hj=>by
  by_cases hjk:j < k.toNat
  ·rw[h7 j hjk];exact Nat.le_refl _
  ·rw[LY h6 (by omega:k≤(j:Int))];exact Nat.zero_le _
 have:=zU pu M (sl fl' w) h w fl' rfl k h6 h2 (by omega) hcnt M 0 [] (fun j=>2*(K8 (j:Int) h 0).length) (by omega) (by omega) (by simp)
 simp only[List.nil_append,List.drop_zero,List.take_zero] at this
 rw[←this]
 unfold Dn Pi zT
 simp only[Bh,kL,Ak,I4,List.count_nil,Nat.sub_zero,List.length_nil,List.map_nil,Nat.mul_zero]
 rfl
theorem UY (a:Int):∀ l,less a l≤l.length
 | []=>Nat.le_refl _
 | b :: l => by
  have:=UY a l
  show (if b < a then 1 else 0)+less a l≤l.length+1
  split <;> omega
theorem zV (l:List Int) (i b:Nat):(⟨l.length - i,b,Aq ((l.length - i)*1) (Am (i*1) (l.map I))⟩:Sl)=sl b (l.drop i):=by
 unfold sl
 simp only[Cg,Bz,Nat.mul_one,List.length_drop,←List.map_drop]
 congr 1
 exact List.take_of_length_le (by simp)

theorem Abe (pu:Af) (n:Nat) (ih0:Sl→Int→Sl→Int→Int→Option Value) (s s2:Sl) (N a:Int) (i:Nat) (hi:i < 1000) (b:Nat) (m:List Int) (hm:m.length < 1000):∀ (f j z:Nat),m.length - j < f→j≤m.length→z+m.length < 100000+j →
 Pe pu n ih0 f s (Int.ofNat z) a s2 N (Int.ofNat i) (sl b m) (Int.ofNat m.length) (Int.ofNat j)=ih0 s (Int.ofNat (z+less a (m.drop j))) s2 N (Int.ofNat (i+1)):=by
 intro f
 induction f with
 | zero=>intro j z h;omega
 | succ f ih =>
  intro j z h hj hz
  show RZ pu n ih0 (Pe pu n ih0 f) _ _ _ _ _ _ _ _ _=_
  unfold RZ
  by_cases hlt:j < m.length
  ·have e:m.drop j=m[j]::m.drop (j+1):=List.drop_eq_getElem_cons hlt
   rw[Fp hlt]
   simp only[Ak,Cx,Ac,I4,GX,blt_eq,hlt,decide_true,CF,Bool.true_and,BZ,Nat.mul_one,Aja m j hlt,BP,RY,DC j (by omega:j < 1000000),DC z (by omega:z < 1000000)]
   rw[e]
   by_cases c:m[j] < a
   ·rw[yS.2 c,Ak,ih (j+1) (z+1) (by omega) (by omega) (by omega)]
    show _=ih0 s (Int.ofNat (z+((if m[j] < a then 1 else 0)+less a (m.drop (j+1))))) s2 N (Int.ofNat (i+1))
    rw[if_pos c,Nat.add_assoc]
   ·rw[yT.2 c,AA,ih (j+1) z (by omega) (by omega) (by omega)]
    show _=ih0 s (Int.ofNat (z+((if m[j] < a then 1 else 0)+less a (m.drop (j+1))))) s2 N (Int.ofNat (i+1))
    rw[if_neg c,Nat.zero_add]
  ·have:j=m.length:=by omega
   subst this
   rw[FL hlt,AA,List.drop_length]
   simp only[UJ,DC i (by omega:i < 1000000),less,Nat.add_zero]
theorem l30 (pu:Af) (n:Nat) (hn:100≤n) (l:List Int) (hl:l.length < 50):∀ (f i z:Nat),l.length - i < f→i≤l.length→z≤i*50 →
 JO pu n f (sl 0 l) (Int.ofNat z) (sl 0 l) (Int.ofNat l.length) (Int.ofNat i)=some (.tuple ⟨[I (Int.ofNat (z+inv (l.drop i))),I 0]⟩):=by
 intro f
 induction f with
 | zero=>intro i z h;omega
 | succ f ih =>
  intro i z h hi hz
  show R3 pu n (JO pu n f) _ _ _ _ _=_
  unfold R3
  by_cases hlt:i < l.length
  ·have e:l.drop i=l[i]::l.drop (i+1):=List.drop_eq_getElem_cons hlt
   have hle:Nat.ble (i+1) l.length=true:=by rw[ble_eq];simp;omega
   rw[Fp hlt]
   simp only[Ak,Cx,Ac,I4,GX,blt_eq,hlt,decide_true,CF,Bool.true_and,BZ,Nat.mul_one,Aja l i hlt,BP,DC i (by omega:i < 1000000),show (sl 0 l).fl=0 from rfl,show nt (Nat.beq 0 2)=true from rfl,hle]
   have pd:=zV l (i+1) (bb (an (Nat.beq l.length l.length) (Dp false (Nat.beq 0 1))) 1 0)
   simp only[Nat.mul_one,CF] at pd
   rw[pd]
   have ln:l.length - (i+1)=(l.drop (i+1)).length:=by simp
   rw[ln,show (0:Int)=Int.ofNat 0 from rfl,Abe pu n (JO pu n f) (sl 0 l) (sl 0 l) (Int.ofNat l.length) l[i] i (by omega) _ (l.drop (i+1)) (by simp;omega) n 0 z (by simp;omega) (by omega) (by simp;omega),List.drop_zero]
   have lb:=UY l[i] (l.drop (i+1))
   rw[List.length_drop] at lb
   rw[ih (i+1) (z+less l[i] (l.drop (i+1))) (by omega) (by omega) (by omega),e]
   show _=some (Value.tuple ⟨[I (Int.ofNat (z+(less l[i] (l.drop (i+1))+inv (l.drop (i+1))))),I 0]⟩)
   rw[Nat.add_assoc]
  ·have:i=l.length:=by omega
   subst this
   rw[FL hlt,AA,List.drop_length];rfl

theorem Sm (h:List Int):∀ (w pre:List Int),(srcs h w pre).length=w.length
 | [],_=>rfl
 | v::w,pre=>by rw[Pq,List.length_cons,Sm h w,List.length_cons]
end Go.MnNM
namespace Go.MdM
variable {N N':Nat} {H W H' W':Nat→Int}
theorem UZ (P:Nat→Bn→Bn→Prop)
 (step:∀ c S S',P c S S'→∀ i,i < N→S i=true→(∃ i',i' < N'∧S' i'=true∧P c (del S i) (del S' i'))∨(∃ c',c=c'+1∧P c' (del S i) S'))
 (ev:∀ c S S',P c S S'→Bp N H W S→Bp N' H' W' S'):∀ (k c:Nat) (S S':Bn),card N S≤k→P c S S'→M N H W S≤M N' H' W' S'+c
 | 0,c,S,S',hk,_=>by rw[Iq (by omega)];omega
 | k + 1, c, S, S', hk, hP => by
  by_cases h0:card N S=0
  ·rw[Iq h0];omega
  obtain⟨i,hi,hs,hm⟩:∃ i,i < N∧S i=true∧mx ((els N S).map fun i=>M N H W (del S i))≤M N H W (del S i):=by
   by_cases hz:mx ((els N S).map fun i=>M N H W (del S i))=0
   ·have hl:(els N S).length≠0:=by rw[Ha];exact h0
    obtain⟨i,hi⟩:=List.exists_mem_of_length_pos (Nat.pos_of_ne_zero hl)
    exact⟨i,(Eo.1 hi).1,(Eo.1 hi).2,by omega⟩
   ·obtain⟨i,hi,he⟩:=List.mem_map.1 (QF hz)
    exact⟨i,(Eo.1 hi).1,(Eo.1 hi).2,by omega⟩
  have hc:=FN hi hs
  rw[QG S h0]
  have ho:=Ug (Bp N H W S)
  rcases step c S S' hP i hi hs with⟨i',hi',hs',hP'⟩ | ⟨c',rfl,hP'⟩
  ·have h1:=UZ P step ev k c _ _ (by omega) hP'
   by_cases he:Bp N H W S
   ·have h2:=Xe hi' hs' (ev _ _ _ hP he)
    omega
   ·have h2:=dR (H:=H') (W:=W') hi' hs'
    rw[Si he];omega
  ·have h1:=UZ P step ev k c' _ _ (by omega) hP'
   omega
theorem U0 {S:Bn}:Bp N H W S↔((els N S).map H).Perm ((els N S).map W):=by
 have e:∀ (f:Nat→Int) (x:Int),((els N S).map f).count x=cn N S f x:=fun f x=>by
  unfold els cn
  rw[List.count_eq_countP,List.countP_map,List.countP_filter]
  refine List.countP_congr fun i _=>?_
  simp only[Function.comp]
  rw[Bool.and_comm]
 rw[List.perm_iff_count]
 unfold Bp
 constructor
 ·intro h x;rw[e,e];exact h x
 ·intro h x;rw[←e,←e];exact h x
structure Wv (N N':Nat) (φ:Nat→Nat) (S S':Bn):Prop where
 lt:∀ i,i < N→S i=true→φ i < N'
 inj:∀ i j,i < N→j < N→S i=true→S j=true→φ i=φ j→i=j
 im:∀ j,j < N'→(S' j=true↔∃ i,i < N∧S i=true∧φ i=j)
theorem Jv {S:Bn} {i j:Nat}:del S i j=true↔S j=true∧j≠i:=by unfold del;simp
theorem Wv.del {φ:Nat→Nat} {S S':Bn} (h:Wv N N' φ S S') {i:Nat} (hi:i < N) (hs:S i=true):Wv N N' φ (del S i) (del S' (φ i)) where
 lt:=fun k hk hd=>h.lt k hk (Jv.1 hd).1
 inj:=fun a b ha hb h1 h2 e=>h.inj a b ha hb (Jv.1 h1).1 (Jv.1 h2).1 e
 im:=fun j hj=>by
  rw[Jv,h.im j hj]
  constructor
  ·rintro⟨⟨a,ha,hsa,e⟩,hne⟩
   exact⟨a,ha,Jv.2 ⟨hsa,fun h=>hne (by rw[←e,h])⟩,e⟩
  ·rintro⟨a,ha,hda,e⟩
   obtain⟨hsa,hne⟩:=Jv.1 hda
   exact⟨⟨a,ha,hsa,e⟩,fun hj=>hne (h.inj a i ha hi hsa hs (by rw[e,hj]))⟩
theorem Ps (S:Bn):(els N S).Nodup:=List.nodup_range.filter _
theorem Wv.perm {φ:Nat→Nat} {S S':Bn} (h:Wv N N' φ S S'):(els N' S').Perm ((els N S).map φ):=by
 refine(List.perm_ext_iff_of_nodup (Ps S') ?_).2 fun j=>?_
 ·unfold List.Nodup
  rw[List.pairwise_map]
  refine List.Pairwise.imp_of_mem ?_ (Ps S)
  intro a b ha hb hne e
  exact hne (h.inj a b (Eo.1 ha).1 (Eo.1 hb).1 (Eo.1 ha).2 (Eo.1 hb).2 e)
 ·rw[Eo,List.mem_map]
  constructor
  ·rintro⟨hj,hs⟩
   obtain⟨i,hi,hsi,e⟩:=(h.im j hj).1 hs
   exact⟨i,Eo.2 ⟨hi,hsi⟩,e⟩
  ·rintro⟨i,hi,e⟩
   obtain⟨hi,hs⟩:=Eo.1 hi
   have hl:=h.lt i hi hs
   rw[e] at hl
   exact⟨hl,(h.im j hl).2 ⟨i,hi,hs,e⟩⟩
theorem Wv.card {φ:Nat→Nat} {S S':Bn} (h:Wv N N' φ S S'):card N' S'=card N S:=by
 rw[←Ha,←Ha,h.perm.length_eq,List.length_map]
def Goes (N:Nat) (φ:Nat→Nat) (g k:Int→Int) (S:Bn) (H W H' W':Nat→Int):Prop:=∀ i,i < N→S i=true→H' (φ i)=g (H i)∧W' (φ i)=g (W i)∧k (g (H i))=H i∧k (g (W i))=W i
theorem Jf {S:Bn} {f g:Nat→Int} (h:∀ i,i < N→S i=true→f i=g i):(els N S).map f=(els N S).map g:=
 List.map_congr_left fun i hi=>h i (Eo.1 hi).1 (Eo.1 hi).2
theorem Wv.ev {φ:Nat→Nat} {g k:Int→Int} {S S':Bn} (h:Wv N N' φ S S') (hg:Goes N φ g k S H W H' W'):Bp N H W S↔Bp N' H' W' S':=by
 have a1:((els N' S').map H').Perm (((els N S).map H).map g):=by
  refine(h.perm.map H').trans ?_
  rw[List.map_map,List.map_map,Jf (f:=H' ∘ φ) (g:=g ∘ H) fun i hi hs=>(hg i hi hs).1]
 have a2:((els N' S').map W').Perm (((els N S).map W).map g):=by
  refine(h.perm.map W').trans ?_
  rw[List.map_map,List.map_map,Jf (f:=W' ∘ φ) (g:=g ∘ W) fun i hi hs=>(hg i hi hs).2.1]
 have b1:(((els N S).map H).map g).map k=(els N S).map H:=by
  rw[List.map_map,List.map_map];exact Jf fun i hi hs=>(hg i hi hs).2.2.1
 have b2:(((els N S).map W).map g).map k=(els N S).map W:=by
  rw[List.map_map,List.map_map];exact Jf fun i hi hs=>(hg i hi hs).2.2.2
 rw[U0,U0]
 constructor
 ·intro he
  exact a1.trans ((he.map g).trans a2.symm)
 ·intro he
  have:=(a1.symm.trans (he.trans a2)).map k
  rwa [b1,b2] at this
theorem Goes.del {φ:Nat→Nat} {g k:Int→Int} {S:Bn} (h:Goes N φ g k S H W H' W') (i:Nat):Goes N φ g k (del S i) H W H' W':=fun a ha hd=>h a ha (Jv.1 hd).1
theorem zW {φ:Nat→Nat} {g k:Int→Int} {S S':Bn} (h:Wv N N' φ S S') (hg:Goes N φ g k S H W H' W'):M N' H' W' S'=M N H W S:=by
 have h1 := UZ (N := N) (N' := N') (H := H) (W := W) (H' := H') (W' := W') (fun c S S' => c = 0 ∧ Wv N N' φ S S' ∧ Goes N φ g k S H W H' W')
  (fun c S S' hP i hi hs=>.inl ⟨φ i,hP.2.1.lt i hi hs,(hP.2.1.im _ (hP.2.1.lt i hi hs)).2 ⟨i,hi,hs,rfl⟩,hP.1,hP.2.1.del hi hs,hP.2.2.del i⟩)
  (fun c S S' hP he=>(hP.2.1.ev hP.2.2).1 he) _ 0 S S' (Nat.le_refl _) ⟨rfl,h,hg⟩
 have h2 := UZ (N := N') (N' := N) (H := H') (W := W') (H' := H) (W' := W) (fun c S' S => c = 0 ∧ Wv N N' φ S S' ∧ Goes N φ g k S H W H' W')
  (fun c S' S hP j hj hs => by
    obtain⟨i,hi,hsi,rfl⟩:=(hP.2.1.im j hj).1 hs
    exact .inl ⟨i,hi,hsi,hP.1,hP.2.1.del hi hsi,hP.2.2.del i⟩)
  (fun c S' S hP he=>(hP.2.1.ev hP.2.2).2 he) _ 0 S' S (Nat.le_refl _) ⟨rfl,h,hg⟩
 omega
theorem b1:∀ a b c:Bool,((a && b) && !c)=((a && !c) && b):=by decide
theorem b2:∀ a b c:Bool,((a && !b) && !c)=((a && !c) && !b):=by decide
end Go.MdM
set_option maxRecDepth 100000
namespace Go.MnNM
open Go.Sp Go.MnN Go.MdM
def Nf (h w:List Int):Bn:=fun i=>!(fn h i == fn w i)
theorem XQ {h w:List Int} (hl:w.length=h.length):∀ i,i < h.length→tb (bv h w) i=Nf h w i:=fun i hi=>by
 unfold Nf
 rw[Jg hi,Jg (by omega:i < w.length)]
 exact Uh h w i hi (by omega)
theorem Ui {h w:List Int} (hl:w.length=h.length):CY h w=Int.ofNat (card h.length (Nf h w)) - Int.ofNat (M h.length (fn h) (fn w) (Nf h w)):=by
 unfold CY Co
 rw[Gs (XQ hl),KU (XQ hl)]
theorem zX {h w T U:List Int} (hl:w.length=h.length) (hl2:U.length=T.length) (hc:card T.length (Nf T U)=card h.length (Nf h w)) (hm:M T.length (fn T) (fn U) (Nf T U)=M h.length (fn h) (fn w) (Nf h w)):CY T U=CY h w:=by
 rw[Ui hl,Ui hl2,hc,hm]
structure Sn (h w T U:List Int) (φ:Nat→Nat) (g k:Int→Int):Prop where
 lt:∀ i,i < h.length→φ i < T.length
 inj:∀ i j,i < h.length→j < h.length→φ i=φ j→i=j
 hT:∀ i,i < h.length→fn T (φ i)=g (fn h i)
 hU:∀ i,i < h.length→fn U (φ i)=g (fn w i)
 kh:∀ i,i < h.length→k (g (fn h i))=fn h i
 kw:∀ i,i < h.length→k (g (fn w i))=fn w i
 rest:∀ j,j < T.length→(∀ i,i < h.length→φ i≠j)→fn T j=fn U j
theorem Sn.emb {h w T U:List Int} {φ:Nat→Nat} {g k:Int→Int} (L:Sn h w T U φ g k):Wv h.length T.length φ (Nf h w) (Nf T U) where
 lt:=fun i hi _=>L.lt i hi
 inj:=fun i j hi hj _ _ e=>L.inj i j hi hj e
 im:=fun j hj=>by
  constructor
  ·intro hw
   apply Classical.byContradiction
   intro hn
   by_cases he:∃ i,i < h.length∧φ i=j
   ·obtain⟨i,hi,rfl⟩:=he
    refine hn ⟨i,hi,?_,rfl⟩
    unfold Nf at hw ⊢
    rw[L.hT i hi,L.hU i hi] at hw
    simp only[Bool.not_eq_true',beq_eq_false_iff_ne,ne_eq] at hw ⊢
    exact fun e=>hw (by rw[e])
   ·have:=L.rest j hj fun i hi e=>he ⟨i,hi,e⟩
    unfold Nf at hw
    simp[this] at hw
  ·rintro⟨i,hi,hs,rfl⟩
   unfold Nf at hs ⊢
   rw[L.hT i hi,L.hU i hi]
   simp only[Bool.not_eq_true',beq_eq_false_iff_ne,ne_eq] at hs ⊢
   intro e
   have:=congrArg k e
   rw[L.kh i hi,L.kw i hi] at this
   exact hs this
theorem Sn.goes {h w T U:List Int} {φ:Nat→Nat} {g k:Int→Int} (L:Sn h w T U φ g k) (S:Bn):Goes h.length φ g k S (fn h) (fn w) (fn T) (fn U):=fun i hi _=>⟨L.hT i hi,L.hU i hi,L.kh i hi,L.kw i hi⟩
theorem Sn.M {h w T U:List Int} {φ:Nat→Nat} {g k:Int→Int} (L:Sn h w T U φ g k):M T.length (fn T) (fn U) (Nf T U)=M h.length (fn h) (fn w) (Nf h w):=zW L.emb (L.goes _)
theorem Sn.CY {h w T U:List Int} {φ:Nat→Nat} {g k:Int→Int} (L:Sn h w T U φ g k) (hl:w.length=h.length) (hl2:U.length=T.length):CY T U=CY h w:=zX hl hl2 L.emb.card L.M
structure KJ (K:Nat) (h w:List Int):Prop where
 k1:1≤K
 k5:K≤5
 n1:1≤h.length
 n10:h.length≤10
 len:w.length=h.length
 ih:JP K h
 iw:JP K w
 cnt:∀ v,h.count v=w.count v
theorem KJ.chk {K:Nat} {h w:List Int} (t:KJ K h w):chk K h w=0:=by
 unfold MnNM.chk
 have e:dC (K:Int).toNat h w:=fun x _=>t.cnt x
 rw[Gt ⟨by have:=t.k1;omega,by have:=t.k5;omega⟩,Gu (by have:=t.n1;omega),Gu (by have:=t.n10;omega),Gt t.len,Gt ⟨t.ih,t.iw⟩,Gt e]
theorem KJ.ok {K:Nat} {h w:List Int} (t:KJ K h w):Ok K h w:=zO t.chk
theorem KJ.map {K:Nat} {h w:List Int} (t:KJ K h w) {g:Int→Int} (hg:∀ x:Int,0≤x∧x < K→0≤g x∧g x < K):KJ K (h.map g) (w.map g) where
 k1:=t.k1
 k5:=t.k5
 n1:=by rw[List.length_map];exact t.n1
 n10:=by rw[List.length_map];exact t.n10
 len:=by rw[List.length_map,List.length_map];exact t.len
 ih:=fun x hx=>by obtain⟨y,hy,rfl⟩:=List.mem_map.1 hx;exact hg y (t.ih y hy)
 iw:=fun x hx=>by obtain⟨y,hy,rfl⟩:=List.mem_map.1 hx;exact hg y (t.iw y hy)
 cnt:=fun v=>((List.perm_iff_count.2 t.cnt).map g).count_eq v
theorem MI {l:List Int} {r:Nat} (hr:r < l.length) (v:Int):l.count v=(l.eraseIdx r).count v+if l[r]=v then 1 else 0:=by
 have e:=List.take_append_drop r l
 rw[List.drop_eq_getElem_cons hr] at e
 have e2:l.count v=(l.take r++l[r]::l.drop (r+1)).count v:=by rw[e]
 rw[e2,List.eraseIdx_eq_take_drop_succ,List.count_append,List.count_append,List.count_cons]
 simp
 omega
theorem KJ.erase {K:Nat} {h w:List Int} (t:KJ K h w) {r:Nat} (hr:r < h.length) (he:fn h r=fn w r) (h2:1 < h.length):KJ K (h.eraseIdx r) (w.eraseIdx r) where
 k1:=t.k1
 k5:=t.k5
 n1:=by rw[List.length_eraseIdx,if_pos hr];omega
 n10:=by rw[List.length_eraseIdx,if_pos hr];have:=t.n10;omega
 len:=by have:=t.len;rw[List.length_eraseIdx,List.length_eraseIdx,if_pos hr,if_pos (by omega)];omega
 ih:=fun x hx=>t.ih x (List.mem_of_mem_eraseIdx hx)
 iw:=fun x hx=>t.iw x (List.mem_of_mem_eraseIdx hx)
 cnt:=fun v=>by
  have hw:r < w.length:=by have:=t.len;omega
  have e1:=MI hr v
  have e2:=MI hw v
  rw[Jg hr,Jg hw] at he
  have:=t.cnt v
  rw[he] at e1
  omega
end Go.MnNM
set_option maxRecDepth 100000
set_option maxHeartbeats 4000000
namespace Go.MnNM
open Go.Sp Go.MnN Go.MdM Go.MdV
theorem q30 (k:Nat) (args:List Value):FD (k+1) 30 args=pJ (FD k) L args:=by kernel_rfl
theorem Abf (pu:Af) (fl fl':Nat) (k:Int) (h w:List Int):pJ pu L [tr fl fl' k h w]=Yr pu L k (sl fl h) (sl fl' w):=by kernel_rfl
theorem nt0:nt (Bd (0:Int) 0)=false:=rfl
theorem p30 (n fl fl':Nat) {K:Nat} {h w:List Int} (t:KJ K h w):FD (n+4) 30 [tr fl fl' K h w]=some (.tuple ⟨[I (Int.ofNat (inv (srcs h w []))),I 0]⟩):=by
 rw[q30,Abf]
 have e1:=p47 (n+1) fl fl' K h w
 rw[t.chk] at e1
 have e2:=p58 (n+2) fl fl' K h w t.chk
 have hl:(srcs h w []).length < 50:=by rw[Sm];have:=t.n10;have:=t.len;omega
 have e3:=l30 (FD (n+3)) L (by show 100≤1000000;omega) (srcs h w []) hl L 0 0 (by show _ < 1000000;omega) (by omega) (by omega)
 unfold tr S at e1 e2
 unfold Yr
 simp -implicitDefEqProofs only [e1,e2,Ac,BP,nt0,AA,Dc,I4]
 rw[List.drop_zero,Nat.zero_add] at e3
 exact e3
theorem K9 {y:Int} (h:0≤y∧y < 256) {m:Nat} (hm:0 < m):∃ A,A < m∧Int.tmod (Aj .i64 y) (.ofNat m) = .ofNat A:=by
 obtain⟨a,rfl⟩:=Int.eq_ofNat_of_zero_le h.1
 rw[Oe _ (by omega) (by omega)]
 exact⟨a % m,Nat.mod_lt _ hm,rfl⟩
theorem nz {m:Nat} (hm:0 < m):nt (Bd (Int.ofNat m) 0)=true:=by
 have:Bd (Int.ofNat m) 0=false:=by rw[Lr];simp;omega
 rw[this];rfl
theorem WE (l:List Int):Au Ah (l.map I)=true:=by rw[Bh,kL]
theorem dU (l:List Int) (x:Int):Br (Am 0 (l.map I)) [I x]=(l++[x]).map I:=by simp
theorem VL {a b:Nat} (h:a < b):an (Nat.blt a b) true=true:=by rw[CF,blt_eq,decide_eq_true h];rfl
theorem XR {a:Nat} (h:a≠0):Nat.beq a 0=false:=by
 cases a with
 | zero=>exact absurd rfl h
 | succ a=>rfl
section
variable (pu:Af) (m:Nat) (q:List Value) (x:Nat→Int) (hq:∀ i,i < 22→AL q i=some (.int .u8 (x i))) (hc:Au Ah q=true) (hx:∀ i,0≤x i∧x i < 256)
include hq hc hx
theorem OP {K N:Nat} (hK:0 < K) (hN:N≤9):∀ (d w i:Nat) (W:List Int),i+d=N→d < w→W.length=i→JP K W →
 ∃ W',W'.length=N∧JP K W'∧Pb pu m w W.length (2*W.length) (.ofNat N) (.ofNat i) q 0 (.ofNat K) W.length (2*W.length) (W.map I) (W.map I)=O9 pu m W'.length (2*W'.length) q 0 (.ofNat K) W'.length (2*W'.length) (W'.map I) (W'.map I)
 | _,0,_,_,_,h,_,_=>by omega
 | 0, w + 1, i, W, hi, _, hW, hk => by
  refine⟨W,by omega,hk,?_⟩
  show Ow pu m (Pb pu m w) W.length (2*W.length) (.ofNat N) (.ofNat i) q 0 (.ofNat K) W.length (2*W.length) (W.map I) (W.map I)=_
  unfold Ow
  rw[hc,WE,Ak,Ak,Ak,FL (by omega:¬ i < N),AA]
 | d + 1, w + 1, i, W, hi, hw, hW, hk => by
  have h1:i < N:=by omega
  obtain⟨A,hA,eA⟩:=K9 (hx (2+i)) hK
  have hg:AL q (2+i*1)=some (.int .u8 (x (2+i))):=by rw[Nat.mul_one];exact hq _ (by omega)
  have gW:=MG W (by omega)
  have hget:AL ((W++[Int.ofNat A]).map I) (0+i*1)=some (I (Int.ofNat A)):=by
   rw[BZ,Nat.zero_add,Nat.mul_one,Aja _ i (by simp;omega)]
   simp[←hW]
  obtain⟨W',w1,w2,w3⟩:=OP hK hN d w (i+1) (W++[Int.ofNat A]) (by omega) (by omega) (by simp[hW]) (fun z hz=>by
   rcases List.mem_append.1 hz with hz | hz
   ·exact hk z hz
   ·rw[List.mem_singleton.1 hz];exact⟨Int.natCast_nonneg A,Int.ofNat_lt.2 hA⟩)
  refine⟨W',w1,w2,?_⟩
  rw[←w3]
  show Ow pu m (Pb pu m w) W.length (2*W.length) (.ofNat N) (.ofNat i) q 0 (.ofNat K) W.length (2*W.length) (W.map I) (W.map I)=_
  unfold Ow
  simp only[hc,WE,Ak,Fp h1,Cx,Ac,show Nat.blt i 10=true from by rw[blt_eq];simp;omega,hg,show Bi .u8 (.int .u8 (x (2+i)))=some (x (2+i)) from rfl,nz hK,eA,gW,dU,VL (show i < W.length+1 from by omega),hget,BP,DC i (by omega),AA,Nat.add_zero,List.length_append,List.length_singleton]
theorem Sq {K:Nat} (wn wc:Nat) (wq:List Value) (hwq:Au Ah wq=true):∀ (d w i c:Nat) (E H:List Int),E.length=d→d < w→E.length+i≤9→H.length≤i→E.length≤c / 2 →
 ∃ H',(H++E).Perm H'∧O8 pu m w E.length c (.ofNat i) q 0 (.ofNat K) H.length (2*H.length) wn wc (E.map I) (H.map I) wq=O7 pu m 0 (.ofNat K) H'.length (2*H'.length) wn wc (H'.map I) wq
 | _,0,_,_,_,_,_,h,_,_,_=>by omega
 | 0, w + 1, i, c, E, H, hE, _, _, _, _ => by
  obtain rfl:=List.eq_nil_of_length_eq_zero hE
  refine⟨H,by simp,?_⟩
  show Ov pu m (O8 pu m w) 0 c (.ofNat i) q 0 (.ofNat K) H.length (2*H.length) wn wc ([].map I) (H.map I) wq=_
  unfold Ov
  rw[hc,WE,hwq,Ak,Ak,WE,Ak,Ak,show AY 0 (Int.ofNat 0)=false from rfl,AA]
 | d + 1, w + 1, i, c, E, H, hE, hw, hi, hH, hcc => by
  have hn:0 < E.length:=by omega
  obtain⟨kk,hkk,ek⟩:=K9 (hx (12+i)) hn
  have hg:AL q (12+i*1)=some (.int .u8 (x (12+i))):=by rw[Nat.mul_one];exact hq _ (by omega)
  have gH:=MG H (by omega)
  have hget:AL (E.map I) (kk*1)=some (I E[kk]):=by rw[BZ,Nat.mul_one,Aja E kk hkk]
  have hw1:Aj .i64 (Int.add (Int.ofNat kk) 1)=Int.ofNat (kk+1):=DC kk (by omega)
  have t1:Aq (kk*1) (Am 0 (E.map I))=(E.take kk).map I:=by rw[Cg,Bz,List.drop_zero,Nat.mul_one,List.map_take]
  have t1':Aq (kk*1) ((E.take kk).map I)=(E.take kk).map I:=by rw[Cg,Nat.mul_one,List.take_of_length_le (by simp;omega)]
  have t2:Aq ((E.length - (kk+1))*1) (Am ((kk+1)*1) (E.map I))=(E.drop (kk+1)).map I:=by
   rw[Cg,Bz,Nat.mul_one,Nat.mul_one,List.map_drop,List.take_of_length_le (by simp)]
  have t2':Aq ((E.length - (kk+1))*1) ((E.drop (kk+1)).map I)=(E.drop (kk+1)).map I:=by rw[Cg,Nat.mul_one,List.take_of_length_le (by simp)]
  have hlen:(E.take kk++E.drop (kk+1)).length=E.length - 1:=by simp;omega
  have hperm:(H++E).Perm ((H++[E[kk]])++(E.take kk++E.drop (kk+1))):=by
   have e:E=E.take kk++E[kk]::E.drop (kk+1):=by rw[←List.drop_eq_getElem_cons hkk,List.take_append_drop]
   rw[List.append_assoc]
   refine List.Perm.append_left H ?_
   have:(E.take kk++E[kk]::E.drop (kk+1)).Perm (E[kk]::(E.take kk++E.drop (kk+1))):=List.perm_middle
   rw[←e] at this
   exact this
  have ih:=fun c' (h:E.length - 1≤c' / 2)=>Sq (K:=K) wn wc wq hwq d w (i+1) c' (E.take kk++E.drop (kk+1)) (H++[E[kk]]) (by omega) (by omega) (by omega) (by simp;omega) (by rw[hlen];exact h)
  have hL:(H++[E[kk]]).length=H.length+1:=by simp
  show ∃ H',_∧Ov pu m (O8 pu m w) E.length c (.ofNat i) q 0 (.ofNat K) H.length (2*H.length) wn wc (E.map I) (H.map I) wq=_
  unfold Ov
  simp only[hc,hwq,WE,Ak,show AY 0 (Int.ofNat E.length)=true from Fp hn,Cx,Ac,show Nat.blt i 10=true from by rw[blt_eq];simp;omega,hg,show Bi .u8 (.int .u8 (x (12+i)))=some (x (12+i)) from rfl,nz hn,ek,VL hkk,hget,BP,gH,dU,show Nat.ble kk (c / 2)=true from by rw[ble_eq];simp;omega,hw1,show Nat.ble (kk+1) E.length=true from by rw[ble_eq];simp;omega,show Nat.ble (kk*1) (len (E.map I))=true from by rw[ble_eq,AV];simp;omega,show Nat.ble ((kk+1)*1+(E.length - (kk+1))*1) (len (E.map I))=true from by rw[ble_eq,AV];simp;omega,t1,t2,t1',t2',DC i (by omega),AA,Nat.add_zero,Nat.zero_add]
  by_cases k0:kk=0
  ·by_cases r0:E.length - (kk+1)=0
   ·obtain⟨H',p1,p2⟩:=ih 1 (by omega)
    refine⟨H',hperm.trans p1,?_⟩
    have e0:E.take kk++E.drop (kk+1)=[]:=List.eq_nil_of_length_eq_zero (by omega)
    rw[e0,hL] at p2
    rw[←p2,show Nat.beq kk 0=true from by rw[k0];rfl,show Nat.beq (E.length - (kk+1)) 0=true from by rw[r0];rfl,Ak,Ak]
    rfl
   ·obtain⟨H',p1,p2⟩:=ih (2*(E.length - (kk+1))) (by omega)
    refine⟨H',hperm.trans p1,?_⟩
    rw[hlen,hL] at p2
    have e0:E.take kk=[]:=by rw[k0];rfl
    rw[e0,List.nil_append,show E.length - 1=E.length - (kk+1) from by omega] at p2
    rw[←p2,show Nat.beq kk 0=true from by rw[k0];rfl,XR (show E.length - (kk+1)≠0 from by omega),Ak,AA,LZ (by omega),Ak]
  ·by_cases r0:E.length - (kk+1)=0
   ·obtain⟨H',p1,p2⟩:=ih (2*kk) (by omega)
    refine⟨H',hperm.trans p1,?_⟩
    rw[hlen,hL] at p2
    have e0:E.drop (kk+1)=[]:=List.drop_eq_nil_of_le (by omega)
    rw[e0,List.append_nil,show E.length - 1=kk from by omega] at p2
    rw[←p2,XR (show kk≠0 from by omega),show Nat.beq (E.length - (kk+1)) 0=true from by rw[r0];rfl,Ak,AA,LZ (by omega),Ak,Ak]
   ·obtain⟨H',p1,p2⟩:=ih (2*(kk+(E.length - (kk+1)))) (by omega)
    refine⟨H',hperm.trans p1,?_⟩
    rw[hlen,hL] at p2
    have ea:Br (Am 0 ((E.take kk).map I)) ((E.drop (kk+1)).map I)=(E.take kk++E.drop (kk+1)).map I:=by simp
    have es:Au D6 ((E.drop (kk+1)).map I)=true:=by
     rw[Bh,List.all_eq_true]
     intro v hv
     obtain⟨z,_,rfl⟩:=List.mem_map.1 hv
     rfl
    have hk1:(E.take kk).length=kk:=by simp;omega
    have gg:GV 1 8 kk (2*kk) (E.length - (kk+1)) ((E.take kk).map I)=true:=by
     have:=zM 1 8 kk (E.length - (kk+1)) ((E.take kk).map I) (LZ (by omega)) (by omega) (by simp;omega)
     exact this
    rw[show E.length - 1=kk+(E.length - (kk+1)) from by omega] at p2
    rw[←p2,XR (show kk≠0 from by omega),XR (show E.length - (kk+1)≠0 from by omega),AA,AA,LZ (by omega),Ak,es,gg,show an true true=true from rfl,Ak,ea,WE,Ak]
end
end Go.MnNM
set_option maxRecDepth 100000
set_option maxHeartbeats 4000000
namespace Go.MnNM
open Go.Sp Go.MnN Go.MdM Go.MdV
theorem q21 (k:Nat) (args:List Value):FD (k+1) 21 args=pG (FD k) L args:=by kernel_rfl
theorem dV (A:Nat) (hA:A < 1000):Aj .i64 (Int.add 1 (Int.ofNat A))=Int.ofNat (A+1):=by
 have e:Int.add 1 (Int.ofNat A)=((A+1:Nat):Int):=by show (1:Int)+(A:Int)=_;omega
 rw[e];exact Oe _ (by omega) (by omega)
theorem ZE (n:Nat) (q:List Value) (x:Nat→Int) (hl:len q=22) (hq:∀ i,i < 22→AL q i=some (.int .u8 (x i))) (hc:Au Ah q=true) (hx:∀ i,0≤x i∧x i < 256) :
 ∃ K h w,FD (n+1) 21 [.agg ⟨q⟩,I 6,I 4]=some (tr 0 0 (K:Nat) h w)∧KJ K h w∧h.length≤6∧K≤4:=by
 rw[q21]
 obtain⟨A,hA,eA⟩:=K9 (hx 1) (show 0 < 6 from by omega)
 obtain⟨B,hB,eB⟩:=K9 (hx 0) (show 0 < 4 from by omega)
 obtain⟨W,w1,w2,w3⟩:=OP (FD n) L q x hq hc hx (K:=B+1) (N:=A+1) (by omega) (by omega) (A+1) L 0 [] (by omega) (by show _ < 1000000;omega) rfl (fun z hz=>by cases hz)
 obtain⟨H,p1,p2⟩:=Sq (FD n) L q x hq hc hx (K:=B+1) W.length (2*W.length) (W.map I) (WE W) W.length L 0 (2*W.length) W [] rfl (by show _ < 1000000;omega) (by omega) (Nat.le_refl _) (by omega)
 rw[List.nil_append] at p1
 have hHl:=p1.length_eq
 refine⟨B+1,H,W,?_,⟨by omega,by omega,by omega,by omega,by omega,fun z hz=>w2 z (p1.symm.subset hz),w2,fun v=>(p1.count_eq v).symm⟩,by omega,by omega⟩
 have e0:pG (FD n) L [.agg ⟨q⟩,I 6,I 4]=WV (FD n) L q 6 4:=by
  show bb (an (Nat.beq (len q) 22) (Au Ah q)) (WV (FD n) L q 6 4) none=_
  rw[hl,hc];rfl
 rw[e0]
 unfold WV
 simp only[hc,Ak,hq 0 (by omega),hq 1 (by omega),Ac,show Bi .u8 (.int .u8 (x 0))=some (x 0) from rfl,show Bi .u8 (.int .u8 (x 1))=some (x 1) from rfl,show nt (Bd (4:Int) 0)=true from rfl,show nt (Bd (6:Int) 0)=true from rfl,show (6:Int)=Int.ofNat 6 from rfl,show (4:Int)=Int.ofNat 4 from rfl,eA,eB,dV A (by omega),dV B (by omega)]
 refine Eq.trans w3 ?_
 unfold O9
 rw[hc,WE,Ak,Ak,Ak]
 refine Eq.trans p2 ?_
 unfold O7
 simp only[WE,Ak,Xd H H.length rfl,Xd W W.length rfl,show an (Nat.ble (0+H.length*1) (len (H.map I))) true=true from by rw[CF,ble_eq,AV];simp,show an (Nat.ble (0+W.length*1) (len (W.map I))) true=true from by rw[CF,ble_eq,AV];simp]
 rfl
theorem Jd {n:Int} (h:(Lit.int .u8 n).wf=true):0≤n∧n < 256:=by
 simp only[Lit.wf,Bool.and_eq_true,decide_eq_true_eq] at h
 have h1:(0:Int)≤n:=h.1
 have h2:n≤(255:Int):=h.2
 exact⟨h1,by omega⟩
theorem Abh {l:List Int} (h:∀ z∈l,0≤z∧z < 256) (i:Nat):0≤l.getD i 0∧l.getD i 0 < 256:=by
 rw[List.getD_eq_getElem?_getD]
 cases e:l[i]? with
 | none=>exact⟨by decide,by decide⟩
 | some z=>exact h z (List.mem_of_getElem? e)
end Go.MnNM
set_option maxRecDepth 100000
namespace Go.RgP
open Go Go.Sp

abbrev IV (z:Int):Value:=.int .i64 z
def LJ (ps:List (Nat×Nat)) (i:Nat):List EO:=(match ps with | []=>[] | (d,c)::r=>⟨IV (Int.ofNat d),IV (Int.ofNat c),i⟩::LJ r (i+1))
def Fh (ps:List (Nat×Nat)):List EO:=LJ ps 0
def look (d:Nat):List (Nat×Nat)→Nat
 | []=>0
 | (k,c)::r=>bif Nat.beq d k then c else look d r
theorem LK:∀ (ps:List (Nat×Nat)) (i:Nat),Au F4 (LJ ps i)=true
 | [],_=>rfl
 | (d, c) :: r, i => by
  have e:=LK r (i+1)
  show an (F4 ⟨IV (Int.ofNat d),IV (Int.ofNat c),i⟩) (Au F4 (LJ r (i+1)))=true
  rw[e];rfl
theorem DT (ps:List (Nat×Nat)):Au F4 (Fh ps)=true:=LK ps 0
def place (d:Nat):List (Nat×Nat)→Option (Nat×Nat)
 | []=>none
 | (k,c)::r=>bif Nat.beq d k then some (0,c) else (place d r).map fun p=>(p.1+1,p.2)
theorem Ww (a b:Int):IG (IV a) (IV b)=some (Bd a b):=rfl
theorem ZF (a b:Nat):Bd (Int.ofNat a) (Int.ofNat b)=Nat.beq a b:=rfl
theorem ML (d : Nat) : ∀ (ps : List (Nat × Nat)) (i j : Nat), GD (IV (Int.ofNat d)) (LJ ps i) j = some ((place d ps).map fun p => (j + p.1, IV (Int.ofNat p.2)))
 | [],_,_=>rfl
 | (k, c) :: r, i, j => by
  show oo (IG (IV (Int.ofNat d)) (IV (Int.ofNat k))) none (fun b=>bb b (some (some (j,IV (Int.ofNat c)))) (GD (IV (Int.ofNat d)) (LJ r (i+1)) (j+1)))=_
  rw[Ww,Ac,ZF]
  show _=some (Option.map _ (bif Nat.beq d k then some (0,c) else (place d r).map fun p=>(p.1+1,p.2)))
  cases hb:Nat.beq d k with
  | true=>rw[Ak];rfl
  | false =>
   rw[AA,ML d r (i+1) (j+1)]
   show some _=some (Option.map _ ((place d r).map fun p=>(p.1+1,p.2)))
   cases place d r with
   | none=>rfl
   | some p=>simp;omega
theorem KZ (d:Nat) (ps:List (Nat×Nat)):GD (IV (Int.ofNat d)) (Fh ps) 0=some ((place d ps).map fun p=>(p.1,IV (Int.ofNat p.2))):=by
 unfold Fh
 rw[ML]
 cases place d ps with
 | none=>rfl
 | some p=>simp
def left (n:Nat) (seen:List Nat):List Nat:=(List.range n).filter fun i=>decide (i ∉ seen)
end Go.RgP
namespace Go.MdM
variable {N:Nat} {H W:Nat→Int}
def Pk (N:Nat) (H W:Nat→Int) (S:Bn) (L:List Bn):Prop:=
 L.Pairwise (fun A B=>∀ i,i < N→¬ (A i=true∧B i=true))∧∀ D∈L,MH N D S∧Bp N H W D∧∃ i,i < N∧D i=true
def un (L:List Bn):Bn:=fun i=>L.any fun D=>D i
theorem VM (D:Bn) (L:List Bn) (i:Nat):un (D::L) i=(D i || un L i):=rfl
theorem OQ {L:List Bn} {i:Nat}:un L i=true↔∃ D∈L,D i=true:=by unfold un;rw[List.any_eq_true]
theorem dX {A B:Bn} (ha:Bp N H W A) (hb:Bp N H W B) (hd:∀ i,i < N→¬ (A i=true∧B i=true)):Bp N H W (fun i=>A i || B i):=fun x=>by
 rw[Jc (S:=fun i=>A i || B i) (A:=A) (B:=B) H x (fun _ _=>rfl) hd,Jc (S:=fun i=>A i || B i) (A:=A) (B:=B) W x (fun _ _=>rfl) hd,ha x,hb x]
theorem VU {S:Bn} (h:∀ i,i < N→S i=false) (f:Nat→Int) (x:Int):cn N S f x=0:=by
 unfold cn
 rw[List.countP_eq_zero]
 intro i hi
 rw[h i (List.mem_range.1 hi)];simp
theorem ZG {S:Bn} (h:∀ i,i < N→S i=false):Bp N H W S:=fun x=>by rw[VU h,VU h]
theorem QK {S D:Bn} {L:List Bn} (h:Pk N H W S (D::L)):Pk N H W S L:=⟨(List.pairwise_cons.1 h.1).2,fun E hE=>h.2 E (by simp[hE])⟩
theorem XT:∀ {L:List Bn} {S:Bn},Pk N H W S L→Bp N H W (un L)
 | [],_,_=>ZG fun _ _=>rfl
 | D :: L, S, h => by
  have ih:=XT (QK h)
  have hd:∀ i,i < N→¬ (D i=true∧un L i=true):=fun i hi ⟨h1,h2⟩=>by
   obtain⟨E,hE,h3⟩:=OQ.1 h2
   exact(List.pairwise_cons.1 h.1).1 E hE i hi ⟨h1,h3⟩
  exact dX (h.2 D (by simp)).2.1 ih hd
theorem Uj {L:List Bn} {S:Bn} (h:Pk N H W S L):MH N (un L) S:=fun i hi hu=>by
 obtain⟨D,hD,h1⟩:=OQ.1 hu
 exact(h.2 D hD).1 i hi h1
theorem zY {L:List Bn} {S:Bn} (h:Pk N H W S L):Pk N H W (un L) L:=⟨h.1,fun D hD=>⟨fun i _ h1=>OQ.2 ⟨D,hD,h1⟩,(h.2 D hD).2⟩⟩
theorem Sr:∀ {L:List Bn} {S:Bn},Pk N H W S L→L.length≤M N H W S
 | [],_,_=>Nat.zero_le _
 | D :: L, S, h => by
  have ih:=Sr (zY (QK h))
  obtain⟨i,hi,hD⟩:=(h.2 D (by simp)).2.2
  have hn:un L i=false:=by
   cases hu:un L i with
   | false=>rfl
   | true =>
    obtain⟨E,hE,h3⟩:=OQ.1 hu
    exact absurd ⟨hD,h3⟩ ((List.pairwise_cons.1 h.1).1 E hE i hi)
  have h1:=L6 (A:=un L) (B:=un (D::L)) (i:=i) (fun j _ hj=>by rw[VM,hj,Bool.or_true]) hi (by rw[VM,hD];rfl) hn (XT h)
  have h2:=(Uj h).M (H:=H) (W:=W)
  simp only[List.length_cons]
  omega
theorem dY:∀ (k:Nat) (S:Bn),card N S≤k→∃ L,Pk N H W S L∧L.length=M N H W S
 | 0,S,h=>⟨[],⟨List.Pairwise.nil,fun D hD=>by cases hD⟩,(Iq (by omega)).symm⟩
 | k + 1, S, h => by
  by_cases hc:card N S=0
  ·exact⟨[],⟨List.Pairwise.nil,fun D hD=>by cases hD⟩,(Iq hc).symm⟩
  have hM:=QG (H:=H) (W:=W) S hc
  -- a place whose loss costs least
  have hex:∃ i,i < N∧S i=true∧mx ((els N S).map fun i=>M N H W (del S i))=M N H W (del S i):=by
   by_cases h0:mx ((els N S).map fun i=>M N H W (del S i))=0
   ·have hl:(els N S).length≠0:=by rw[Ha];exact hc
    obtain⟨i,l,hil⟩:∃ i l,els N S=i::l:=by
     cases he:els N S with
     | nil=>rw[he] at hl;simp at hl
     | cons i l=>exact⟨i,l,rfl⟩
    have hi:i∈els N S:=by rw[hil];simp
    have:=UO (l:=(els N S).map fun i=>M N H W (del S i)) (List.mem_map.2 ⟨i,hi,rfl⟩)
    exact⟨i,(Eo.1 hi).1,(Eo.1 hi).2,by omega⟩
   ·obtain⟨i,hi,e⟩:=List.mem_map.1 (QF h0)
    exact⟨i,(Eo.1 hi).1,(Eo.1 hi).2,e.symm⟩
  obtain⟨i,hi,hs,e⟩:=hex
  have hcd:=FN hi hs
  obtain⟨L,hL,hlen⟩:=dY k (del S i) (by omega)
  have hsub:MH N (del S i) S:=fun j _ hj=>by unfold del at hj;simp at hj;exact hj.1
  have hL':Pk N H W S L:=⟨hL.1,fun D hD=>⟨fun j hj h1=>hsub j hj ((hL.2 D hD).1 j hj h1),(hL.2 D hD).2⟩⟩
  by_cases he:Bp N H W S
  ·rw[Sg he] at hM
   have hu:=XT hL
   refine⟨(fun j=>S j && !un L j)::L,⟨List.pairwise_cons.2 ⟨fun E hE j hj ⟨h1,h2⟩=>?_,hL.1⟩,fun D hD=>?_⟩,?_⟩
   ·simp only[Bool.and_eq_true,Bool.not_eq_true'] at h1
    rw[OQ.2 ⟨E,hE,h2⟩] at h1;exact absurd h1.2 (by decide)
   ·rcases List.mem_cons.1 hD with rfl | hD
    ·refine⟨fun j _ h1=>?_,UQ (Uj hL') hu he,i,hi,?_⟩
     ·simp only[Bool.and_eq_true] at h1;exact h1.1
     ·have : un L i = false := by
       cases hq:un L i with
       | false=>rfl
       | true =>
        have:=Uj hL i hi hq
        unfold del at this;simp at this
      show (S i && !un L i)=true
      rw[hs,this];rfl
    ·exact hL'.2 D hD
   ·rw[List.length_cons,hlen,hM,e]
  ·rw[Si he] at hM
   exact⟨L,hL',by rw[hlen,hM,e];rfl⟩
theorem Uk (S:Bn):∃ L,Pk N H W S L∧L.length=M N H W S:=dY (card N S) S (Nat.le_refl _)

theorem Wx {i:Nat} (hr:H i=W i):Bp N H W (fun j=>j == i):=fun x=>by
 unfold cn
 apply List.countP_congr
 intro j _
 by_cases e:j=i
 ·subst e;rw[hr]
 ·simp[e]
theorem ZH {S:Bn} {i:Nat} (hi:i < N) (hr:H i=W i) (hs:S i=true):M N H W S=M N H W (del S i)+1:=by
 apply Nat.le_antisymm
 ·obtain⟨L,hL,hlen⟩:=Uk (N:=N) (H:=H) (W:=W) S
  rw[←hlen]
  -- at most one of the sets has the place
  have key:∀ (L:List Bn),Pk N H W S L→∃ L',Pk N H W (del S i) L'∧L.length≤L'.length+1∧(∀ D∈L',∃ E∈L,MH N D E)∧((∀ D∈L,D i=false)→L.length≤L'.length):=by
   intro L
   induction L with
   | nil=>exact fun _=>⟨[],⟨List.Pairwise.nil,fun D hD=>by cases hD⟩,by simp,fun D hD=>(by cases hD),fun _=>Nat.le_refl _⟩
   | cons D L ih =>
    intro h
    obtain⟨L',h1,h2,h3,h4⟩:=ih (QK h)
    have hp:=(List.pairwise_cons.1 h.1).1
    obtain⟨hDs,hDe,j,hj,hDj⟩:=h.2 D (by simp)
    have hdis:∀ A:Bn,MH N A D→∀ E∈L',∀ k,k < N→¬ (A k=true∧E k=true):=fun A hA E hE k hk ⟨q1,q2⟩=>by
     obtain⟨E2,hE2,hs2⟩:=h3 E hE
     exact hp E2 hE2 k hk ⟨hA k hk q1,hs2 k hk q2⟩
    have h3':∀ E∈L',∃ F∈D::L,MH N E F:=fun E hE=>by
     obtain⟨F,hF,hs⟩:=h3 E hE
     exact⟨F,by simp[hF],hs⟩
    cases hDi:D i with
    | false =>
     refine⟨D::L',⟨List.pairwise_cons.2 ⟨hdis D (fun _ _ h=>h),h1.1⟩,fun E hE=>?_⟩,by simp;omega,fun E hE=>?_,fun hall=>?_⟩
     ·rcases List.mem_cons.1 hE with rfl | hE
      ·refine⟨fun k hk h5=>?_,hDe,j,hj,hDj⟩
       unfold del
       rw[hDs k hk h5]
       by_cases e:k=i
       ·subst e;rw[hDi] at h5;cases h5
       ·simp[e]
      ·exact h1.2 E hE
     ·rcases List.mem_cons.1 hE with rfl | hE
      ·exact⟨E,by simp,fun _ _ h=>h⟩
      ·exact h3' E hE
     ·have:=h4 fun E hE=>hall E (by simp[hE])
      simp;exact this
    | true =>
     have hrest:∀ E∈L,E i=false:=fun E hE=>by
      cases q:E i with
      | false=>rfl
      | true=>exact absurd ⟨hDi,q⟩ (hp E hE i hi)
     have h5:=h4 hrest
     exact⟨L',h1,by simp;omega,h3',fun hall=>by rw[hall D (by simp)] at hDi;cases hDi⟩
  obtain⟨L',h1,h2,_,_⟩:=key L hL
  have:=Sr h1
  omega
 ·obtain⟨L,hL,hlen⟩:=Uk (N:=N) (H:=H) (W:=W) (del S i)
  have hnew:Pk N H W S ((fun j=>j == i)::L):=by
   refine⟨List.pairwise_cons.2 ⟨fun E hE j hj ⟨q1,q2⟩=>?_,hL.1⟩,fun D hD=>?_⟩
   ·have e:j=i:=by simpa using q1
    subst e
    have:=(hL.2 E hE).1 j hj q2
    unfold del at this;simp at this
   ·rcases List.mem_cons.1 hD with rfl | hD
    ·exact⟨fun j _ q=>by have e:j=i:=(by simpa using q);subst e;exact hs,Wx hr,i,hi,by simp⟩
    ·exact⟨fun j hj q=>by have:=(hL.2 D hD).1 j hj q;unfold del at this;simp at this;exact this.1,(hL.2 D hD).2⟩
  have:=Sr hnew
  rw[List.length_cons,hlen] at this
  exact this

def Pt (f:Nat→Int) (a b:Nat):Nat→Int:=fun i=>if i=a then f b else if i=b then f a else f i
theorem VV (f:Nat→Int) (a b:Nat):Pt (Pt f a b) a b=f:=by
 funext i
 unfold Pt
 by_cases h1:i=a
 ·subst h1
  rw[if_pos rfl]
  by_cases h2:b=i
  ·subst h2;simp
  ·rw[if_neg h2,if_pos rfl]
 ·rw[if_neg h1]
  by_cases h2:i=b
  ·subst h2;simp
  ·rw[if_neg h2,if_neg h1,if_neg h2]
theorem XU {S:Bn} {f g:Nat→Int} (h:∀ i,i < N→S i=true→f i=g i) (x:Int):cn N S f x=cn N S g x:=by
 unfold cn
 apply List.countP_congr
 intro i hi
 by_cases hs:S i=true
 ·rw[h i (List.mem_range.1 hi) hs]
 ·simp[hs]
theorem XZ {S:Bn} {a b:Nat} (ha:a < N) (hb:b < N) (hab:a≠b) (hsa:S a=true) (hsb:S b=true) (f:Nat→Int) (x:Int):cn N S (Pt f a b) x=cn N S f x:=by
 have hsb':del S a b=true:=by unfold del;rw[hsb];simp;exact fun e=>hab e.symm
 rw[HY ha hsa,HY hb hsb',HY ha hsa f,HY hb hsb' f]
 rw[XU (S:=del (del S a) b) (f:=Pt f a b) (g:=f) fun i _ hi=>by
  unfold del at hi;simp at hi
  unfold Pt;rw[if_neg hi.1.2,if_neg hi.2]]
 have e1:Pt f a b a=f b:=by unfold Pt;rw[if_pos rfl]
 have e2:Pt f a b b=f a:=by unfold Pt;rw[if_neg (fun e=>hab e.symm),if_pos rfl]
 rw[e1,e2];omega
theorem X0 {S:Bn} {a b:Nat} (ha:a < N) (hb:b < N) (hab:a≠b) (h:(S a=true∧S b=true)∨(S a=false∧S b=false)) (he:Bp N H W S):Bp N (Pt H a b) W S:=fun x=>by
 rw[←he x]
 rcases h with⟨h1,h2⟩ | ⟨h1,h2⟩
 ·exact XZ ha hb hab h1 h2 H x
 ·apply XU
  intro i _ hi
  unfold Pt
  rw[if_neg (fun e=>by subst e;rw[h1] at hi;cases hi),if_neg (fun e=>by subst e;rw[h2] at hi;cases hi)]
theorem PI {S:Bn} {L:List Bn} (h:Pk N H W S L) (q:Bn→Bool):Pk N H W S (L.filter q):=⟨h.1.filter q,fun D hD=>h.2 D (List.mem_filter.1 hD).1⟩
theorem one_has {L:List Bn} {S:Bn} (h:Pk N H W S L) {i:Nat} (hi:i < N):(L.filter fun D=>D i).length≤1:=by
 have:=(PI h fun D=>D i)
 cases hl:L.filter (fun D=>D i) with
 | nil=>simp
 | cons A L1 =>
  cases L1 with
  | nil=>simp
  | cons B L2 =>
   rw[hl] at this
   have hA:A i=true:=(List.mem_filter.1 (show A∈L.filter (fun D=>D i) by rw[hl];simp)).2
   have hB:B i=true:=(List.mem_filter.1 (show B∈L.filter (fun D=>D i) by rw[hl];simp)).2
   exact absurd ⟨hA,hB⟩ ((List.pairwise_cons.1 this.1).1 B (by simp) i hi)
theorem Wy (L:List Bn) (q:Bn→Bool):L.length=(L.filter q).length+(L.filter fun D=>!q D).length:=by
 induction L with
 | nil=>rfl
 | cons A L ih =>
  simp only[List.filter_cons,List.length_cons]
  cases q A <;> simp <;> omega
theorem dZ {a b:Nat} (ha:a < N) (hb:b < N) (hab:a≠b) (S:Bn) (hsa:S a=true) (hsb:S b=true):M N H W S≤M N (Pt H a b) W S+1:=by
 obtain⟨L,hL,hlen⟩:=Uk (N:=N) (H:=H) (W:=W) S
 -- the sets with neither
 have h0:=PI hL fun D=>!(D a || D b)
 have hn:Pk N (Pt H a b) W S (L.filter fun D=>!(D a || D b)):=⟨h0.1,fun D hD=>by
  obtain⟨q1,q2,q3⟩:=h0.2 D hD
  have:=(List.mem_filter.1 hD).2
  simp at this
  exact⟨q1,X0 ha hb hab (.inr this) q2,q3⟩⟩
 have hs:=Wy L fun D=>D a || D b
 have hA:=one_has hL ha
 have hB:=one_has hL hb
 have hsum:(L.filter fun D=>D a || D b).length≤(L.filter fun D=>D a).length+(L.filter fun D=>D b).length:=by
  clear hL hlen h0 hn hs hA hB
  induction L with
  | nil=>exact Nat.zero_le _
  | cons A L ih =>
   simp only[List.filter_cons]
   cases A a <;> cases A b <;> simp <;> omega
 have hle:=Sr hn
 by_cases h2:(L.filter fun D=>D a || D b).length≤1
 ·omega
 ·-- two sets: together they are even
  have eA:(L.filter fun D=>D a).length=1:=by omega
  have eB:(L.filter fun D=>D b).length=1:=by omega
  obtain⟨A,hA1⟩:=List.length_eq_one_iff.1 eA
  obtain⟨B,hB1⟩:=List.length_eq_one_iff.1 eB
  have mA:A∈L∧A a=true:=List.mem_filter.1 (show A∈L.filter (fun D=>D a) by rw[hA1];simp)
  have mB:B∈L∧B b=true:=List.mem_filter.1 (show B∈L.filter (fun D=>D b) by rw[hB1];simp)
  have hun:∀ (L:List Bn),Pk N H W S L→A∈L→B∈L→(∀ i,i < N→¬ (A i=true∧B i=true))∨A=B:=by
   intro L hL hA hB
   by_cases e:A=B
   ·exact .inr e
   ·left
    have:=hL.1
    clear hL
    induction L with
    | nil=>cases hA
    | cons C L ih =>
     obtain⟨p1,p2⟩:=List.pairwise_cons.1 this
     rcases List.mem_cons.1 hA with rfl | hA' <;> rcases List.mem_cons.1 hB with rfl | hB'
     ·exact absurd rfl e
     ·exact p1 B hB'
     ·exact fun i hi ⟨h1,h2⟩=>p1 A hA' i hi ⟨h2,h1⟩
     ·exact ih hA' hB' p2
  have hdis:∀ i,i < N→¬ (A i=true∧B i=true):=by
   rcases hun L hL mA.1 mB.1 with h | h
   ·exact h
   ·exfalso
    subst h
    -- one set has both: then the first count is 1
    apply h2
    have:∀ D∈L,(D a || D b)=true→D a=true:=fun D hD h=>by
     cases hDa:D a with
     | true=>rfl
     | false =>
      rw[hDa,Bool.false_or] at h
      have hDm:D∈L.filter (fun D=>D b):=List.mem_filter.2 ⟨hD,h⟩
      rw[hB1] at hDm
      rw[List.mem_singleton.1 hDm,mA.2] at hDa;cases hDa
    have e:(L.filter fun D=>D a || D b)=L.filter fun D=>D a:=by
     apply List.filter_congr
     intro D hD
     cases hDa:D a with
     | true=>rfl
     | false =>
      cases hDb:D b with
      | false=>rfl
      | true=>have:=this D hD (by rw[hDb,Bool.or_true]);rw[hDa] at this;cases this
    rw[e,eA];exact Nat.le_refl _
  obtain⟨sA,vA,iA,hiA,tA⟩:=hL.2 A mA.1
  obtain⟨sB,vB,_⟩:=hL.2 B mB.1
  have hnew:Pk N (Pt H a b) W S ((fun i=>A i || B i)::L.filter fun D=>!(D a || D b)):=by
   refine⟨List.pairwise_cons.2 ⟨fun E hE i hi ⟨q1,q2⟩=>?_,hn.1⟩,fun D hD=>?_⟩
   ·obtain⟨mE,nE⟩:=List.mem_filter.1 hE
    simp at nE
    have hne:∀ C∈L,(∃ x,C x=true∧E x=false)→∀ j,j < N→¬ (C j=true∧E j=true):=fun C hC hx=>by
     intro j hj ⟨w1,w2⟩
     obtain⟨x,x1,x2⟩:=hx
     have hCE:C≠E:=fun e=>by subst e;rw[x1] at x2;cases x2
     have hp:=hL.1
     have:∀ (L:List Bn),L.Pairwise (fun A B=>∀ i,i < N→¬ (A i=true∧B i=true))→C∈L→E∈L→False:=by
      intro L
      induction L with
      | nil=>intro _ h;cases h
      | cons F L ih =>
       intro hp h1 h2
       obtain⟨p1,p2⟩:=List.pairwise_cons.1 hp
       rcases List.mem_cons.1 h1 with rfl | h1' <;> rcases List.mem_cons.1 h2 with rfl | h2'
       ·exact hCE rfl
       ·exact p1 E h2' j hj ⟨w1,w2⟩
       ·exact p1 C h1' j hj ⟨w2,w1⟩
       ·exact ih p2 h1' h2'
     exact this L hp hC mE
    simp only[Bool.or_eq_true] at q1
    rcases q1 with q1 | q1
    ·exact hne A mA.1 ⟨a,mA.2,nE.1⟩ i hi ⟨q1,q2⟩
    ·exact hne B mB.1 ⟨b,mB.2,nE.2⟩ i hi ⟨q1,q2⟩
   ·rcases List.mem_cons.1 hD with rfl | hD
    ·refine⟨fun i hi h=>?_,X0 ha hb hab (.inl ⟨by rw[mA.2];rfl,by rw[mB.2,Bool.or_true]⟩) (dX vA vB hdis),iA,hiA,by show (A iA || B iA)=true;rw[tA];rfl⟩
     simp only[Bool.or_eq_true] at h
     rcases h with h | h
     ·exact sA i hi h
     ·exact sB i hi h
    ·exact hn.2 D hD
  have:=Sr hnew
  rw[List.length_cons] at this
  omega
theorem X3 {a b:Nat} (ha:a < N) (hb:b < N) (hab:a≠b) (S:Bn) (hsa:S a=true) (hsb:S b=true):M N (Pt H a b) W S≤M N H W S+1:=by
 have:=dZ (H:=Pt H a b) (W:=W) ha hb hab S hsa hsb
 rwa [VV] at this
theorem PK:∀ (k:Nat) (S:Bn),card N S≤k→M N H W S≤card N S
 | 0,S,h=>by rw[Iq (by omega)];exact Nat.zero_le _
 | k + 1, S, h => by
  by_cases hc:card N S=0
  ·rw[Iq hc];exact Nat.zero_le _
  rw[QG S hc]
  have h1:=Ug (Bp N H W S)
  have h2:mx ((els N S).map fun i=>M N H W (del S i))≤card N S - 1:=by
   apply dQ
   intro a ha
   obtain⟨i,hi,rfl⟩:=List.mem_map.1 ha
   obtain⟨hi,hs⟩:=Eo.1 hi
   have hcd:=FN hi hs
   have:=PK k (del S i) (by omega)
   omega
  omega
theorem Abi (S:Bn):M N H W S≤card N S:=PK (card N S) S (Nat.le_refl _)
theorem QL : ∀ (k : Nat) (S : Bn), card N S ≤ k → card N S - M N H W S = card N (fun i => S i && !decide (H i = W i)) - M N H W (fun i => S i && !decide (H i = W i))
 | 0, S, h => by
  have hz:=Gv (N:=N) (S:=S) (by omega)
  have e:∀ i,i < N→(fun i=>S i && !decide (H i=W i)) i=S i:=fun i hi=>by show (S i && !decide (H i=W i))=S i;rw[hz i hi];rfl
  rw[Gs e,KU e]
 | k + 1, S, h => by
  by_cases hr:∃ i,i < N∧S i=true∧H i=W i
  ·obtain⟨i,hi,hs,hr⟩:=hr
   have h1:=ZH (S:=S) hi hr hs
   have h2:=FN hi hs
   have ih:=QL k (del S i) (by omega)
   have e:∀ j,j < N→(fun j=>del S i j && !decide (H j=W j)) j=(fun j=>S j && !decide (H j=W j)) j:=fun j hj=>by
    show ((S j && !(j == i)) && !decide (H j=W j))=(S j && !decide (H j=W j))
    by_cases c:j=i
    ·rw[c,decide_eq_true hr];cases S i <;> simp
    ·have:(j == i)=false:=by simpa using c
     rw[this];cases S j <;> simp
   rw[Gs e,KU e] at ih
   omega
  ·have e : ∀ i, i < N → (fun i => S i && !decide (H i = W i)) i = S i := fun i hi => by
    show (S i && !decide (H i=W i))=S i
    cases hs:S i with
    | false=>rfl
    | true=>rw[decide_eq_false (fun c=>hr ⟨i,hi,hs,c⟩)];rfl
   rw[Gs e,KU e]
end Go.MdM
namespace Go.Bfs
section
variable {α:Type} [DecidableEq α]
def news:List α→List α→List α
 | L,[]=>L
 | L,x::xs=>news (if x∈L then L else L++[x]) xs
theorem news_ext:∀ (xs L:List α),∃ E,news L xs=L++E∧(∀ z∈E,z∈xs∧z ∉ L)∧E.Nodup
 | [],L=>⟨[],by simp[news],by simp,List.nodup_nil⟩
 | x :: xs, L => by
  by_cases h:x∈L
  ·obtain⟨E,e,h1,h2⟩:=news_ext xs L
   refine⟨E,?_,fun z hz=>⟨List.mem_cons_of_mem _ (h1 z hz).1,(h1 z hz).2⟩,h2⟩
   show news (if x∈L then L else L++[x]) xs=_
   rw[if_pos h,e]
  ·obtain⟨E,e,h1,h2⟩:=news_ext xs (L++[x])
   refine⟨x::E,?_,fun z hz=>?_,List.nodup_cons.2 ⟨fun hx=>(h1 x hx).2 (by simp),h2⟩⟩
   ·show news (if x∈L then L else L++[x]) xs=_
    rw[if_neg h,e];simp
   ·rcases List.mem_cons.1 hz with rfl | hz
    ·exact⟨by simp,h⟩
    ·exact⟨List.mem_cons_of_mem _ (h1 z hz).1,fun hL=>(h1 z hz).2 (by simp[hL])⟩
theorem news_has:∀ (xs L:List α),(∀ z∈xs,z∈news L xs)∧∀ z∈L,z∈news L xs
 | [],L=>⟨fun z h=>(by cases h),fun z h=>h⟩
 | x :: xs, L => by
  obtain⟨h1,h2⟩:=news_has xs (if x∈L then L else L++[x])
  have hL:∀ z∈L,z∈(if x∈L then L else L++[x]):=fun z hz=>by
   split
   ·exact hz
   ·simp[hz]
  refine⟨fun z hz=>?_,fun z hz=>h2 z (hL z hz)⟩
  rcases List.mem_cons.1 hz with rfl | hz
  ·apply h2
   split
   ·assumption
   ·simp
  ·exact h1 z hz
variable (nb:α→List α) (U:α→Prop) (F:α→Nat) (w:α)
structure World:Prop where
 hw:U w
 h0:F w=0
 hU:∀ x,U x→∀ y∈nb x,U y
 up:∀ x,U x→∀ y∈nb x,F y≤F x+1
 sym:∀ x,U x→∀ y∈nb x,x∈nb y
 dn:∀ x,U x→x≠w→∃ y∈nb x,F y+1=F x
structure Inv (L:List α) (i:Nat):Prop where
 le:i≤L.length
 mem:∀ x∈L,U x
 nd:L.Nodup
 has:w∈L
 done:∀ j (h:j < L.length),j < i→∀ y∈nb L[j],y∈L
 srt:∀ j k (hj:j < L.length) (hk:k < L.length),j≤k→F L[j]≤F L[k]
 top:∀ (h:i < L.length),∀ x∈L,F x≤F L[i]+1
variable {nb U F w}
theorem inv_start (W:World nb U F w):Inv nb U F w [w] 0:=
 ⟨by simp,fun x hx=>by rw[List.mem_singleton.1 hx];exact W.hw,by simp,by simp,fun j _ h=>by omega,fun j k hj hk _=>by
   have e1:j=0:=by simp at hj;omega
   have e2:k=0:=by simp at hk;omega
   subst e1;subst e2;exact Nat.le_refl _,fun _ x hx=>by rw[List.mem_singleton.1 hx,W.h0];omega⟩
theorem low (W:World nb U F w) {L:List α} {i:Nat} (I:Inv nb U F w L i) (h:i < L.length):∀ (n:Nat) (x:α),F x=n→U x→F x≤F L[i]→x∈L:=by
 intro n
 induction n with
 | zero =>
  intro x hx hU _
  by_cases e:x=w
  ·rw[e];exact I.has
  ·obtain⟨y,_,hy⟩:=W.dn x hU e;omega
 | succ n ih =>
  intro x hx hU hle
  by_cases e:x=w
  ·rw[e];exact I.has
  obtain⟨y,hy,hF⟩:=W.dn x hU e
  have hyL:=ih y (by omega) (W.hU x hU y hy) (by omega)
  obtain⟨j,hj,rfl⟩:=List.getElem_of_mem hyL
  have hji:j < i:=by
   apply Classical.byContradiction
   intro c
   have:=I.srt i j h hj (by omega)
   omega
  exact I.done j hj hji x (W.sym x hU _ hy)
theorem new_val (W:World nb U F w) {L:List α} {i:Nat} (I:Inv nb U F w L i) (h:i < L.length) {z:α} (hz:z∈nb L[i]) (hn:z ∉ L):F z=F L[i]+1:=by
 have hx:=I.mem _ (List.getElem_mem h)
 have h1:=W.up _ hx z hz
 by_cases c:F z≤F L[i]
 ·exact absurd (low W I h (F z) z rfl (W.hU _ hx z hz) c) hn
 ·omega
theorem inv_step (W:World nb U F w) {L:List α} {i:Nat} (I:Inv nb U F w L i) (h:i < L.length):Inv nb U F w (news L (nb L[i])) (i+1):=by
 obtain⟨E,e,h1,h2⟩:=news_ext (nb L[i]) L
 obtain⟨k1,k2⟩:=news_has (nb L[i]) L
 have hx:=I.mem _ (List.getElem_mem h)
 have hE:∀ z∈E,F z=F L[i]+1:=fun z hz=>new_val W I h (h1 z hz).1 (h1 z hz).2
 rw[e] at k1 k2 ⊢
 have hget:∀ j (hj:j < (L++E).length),(∃ h:j < L.length,(L++E)[j]=L[j])∨(L.length≤j∧(L++E)[j]∈E):=fun j hj=>by
  by_cases c:j < L.length
  ·exact .inl ⟨c,List.getElem_append_left c⟩
  ·right
   refine⟨by omega,?_⟩
   rw[List.getElem_append_right (by omega)]
   exact List.getElem_mem _
 have htop:∀ x∈L++E,F x≤F L[i]+1:=fun x hx=>by
  rcases List.mem_append.1 hx with hx | hx
  ·exact I.top h x hx
  ·rw[hE x hx];exact Nat.le_refl _
 refine⟨by simp;omega,fun x hxm=>?_,?_,by simp[I.has],fun j hj hji y hy=>?_,fun j k hj hk hjk=>?_,fun hi x hxm=>?_⟩
 ·rcases List.mem_append.1 hxm with hxm | hxm
  ·exact I.mem x hxm
  ·exact W.hU _ hx x (h1 x hxm).1
 ·rw[List.nodup_append]
  exact⟨I.nd,h2,fun a ha b hb hab=>(h1 b hb).2 (hab ▸ ha)⟩
 ·have hjL:j < L.length:=by omega
  rw[List.getElem_append_left hjL] at hy
  by_cases c:j=i
  ·subst c;exact k1 y hy
  ·exact k2 y (I.done j hjL (by omega) y hy)
 ·rcases hget j hj with⟨a,ea⟩ | ⟨a,ma⟩
  ·rcases hget k hk with⟨b,eb⟩ | ⟨b,mb⟩
   ·rw[ea,eb];exact I.srt j k a b hjk
   ·rw[ea,hE _ mb];exact I.top h _ (List.getElem_mem a)
  ·rcases hget k hk with⟨b,eb⟩ | ⟨b,mb⟩
   ·omega
   ·rw[hE _ ma,hE _ mb];exact Nat.le_refl _
 ·have:=htop x hxm
  rcases hget (i+1) hi with⟨a,ea⟩ | ⟨a,ma⟩
  ·rw[ea]
   have:=I.srt i (i+1) h a (by omega)
   omega
  ·rw[hE _ ma];omega
theorem inv_end (W:World nb U F w) {L:List α} (I:Inv nb U F w L L.length):∀ (n:Nat) (x:α),F x=n→U x→x∈L:=by
 intro n
 induction n with
 | zero =>
  intro x hx hU
  by_cases e:x=w
  ·rw[e];exact I.has
  ·obtain⟨y,_,hy⟩:=W.dn x hU e;omega
 | succ n ih =>
  intro x hx hU
  by_cases e:x=w
  ·rw[e];exact I.has
  obtain⟨y,hy,hF⟩:=W.dn x hU e
  have hyL:=ih y (by omega) (W.hU x hU y hy)
  obtain⟨j,hj,rfl⟩:=List.getElem_of_mem hyL
  exact I.done j hj hj x (W.sym x hU _ hy)
end
end Go.Bfs
namespace Go.MdM
def al:Bn:=fun _=>true
def fl (l:List Int):Nat→Int:=fun i=>l.getD i 0
def sw (l:List Int) (a b:Nat):List Int:=(l.set a (l.getD b 0)).set b (l.getD a 0)
theorem Hw (l:List Int) (a b:Nat):(sw l a b).length=l.length:=by simp[sw]
theorem PM (r:List Int) (i j:Nat) (v:Int) (hi:i < r.length):(r.set i v).getD j 0=if j=i then v else r.getD j 0:=by
 simp only[List.getD_eq_getElem?_getD,List.getElem?_set]
 by_cases h:i=j
 ·subst h;simp[hi]
 ·have h':¬ j=i:=fun e=>h e.symm
  simp[h,h']
theorem Sz {l:List Int} {a b:Nat} (ha:a < l.length) (hb:b < l.length) (hab:a≠b):fl (sw l a b)=Pt (fl l) a b:=by
 funext i
 unfold fl sw Pt
 rw[PM _ _ _ _ (by simpa using hb),PM _ _ _ _ ha]
 by_cases h1:i=a
 ·subst h1
  rw[if_neg hab,if_pos rfl,if_pos rfl]
 ·rw[if_neg h1,if_neg h1]
theorem Ul {x y:List Int} (h:x.length=y.length) (e:∀ i,i < x.length→fl x i=fl y i):x=y:=by
 apply List.ext_getElem h
 intro j h1 h2
 have:=e j h1
 simp only[fl,List.getD_eq_getElem?_getD,List.getElem?_eq_getElem h1,List.getElem?_eq_getElem h2,Option.getD_some] at this
 exact this
theorem zZ {l:List Int} {a b:Nat} (ha:a < l.length) (hb:b < l.length) (hab:a≠b):sw (sw l a b) a b=l:=by
 apply Ul (by rw[Hw,Hw])
 intro i _
 rw[Sz (by rw[Hw];exact ha) (by rw[Hw];exact hb) hab,Sz ha hb hab,VV]
theorem Ng (N:Nat):card N al=N:=by unfold card al;simp
theorem SA (x:List Int) (v:Int):cn x.length al (fl x) v=x.count v:=by
 have e:x=(List.range x.length).map (fl x):=by
  apply List.ext_getElem (by simp)
  intro i h1 h2
  simp[fl,List.getD_eq_getElem?_getD,h1]
 unfold cn
 conv=>rhs;rw[e]
 rw[List.count,List.countP_map]
 apply List.countP_congr
 intro i _
 simp[al]
noncomputable def X4 (w x:List Int):Nat:=w.length - M w.length (fl x) (fl w) al
def LM (w x:List Int):Prop:=x.length=w.length∧∀ v,x.count v=w.count v
theorem OT {w x:List Int} (h:LM w x) {a b:Nat} (ha:a < x.length) (hb:b < x.length) (hab:a≠b):LM w (sw x a b):=by
 refine⟨by rw[Hw];exact h.1,fun v=>?_⟩
 rw[←SA (sw x a b) v,Hw,Sz ha hb hab,XZ ha hb hab rfl rfl,SA,h.2 v]
theorem oJ {w x:List Int} (h:LM w x) {a b:Nat} (ha:a < x.length) (hb:b < x.length) (hab:a≠b):X4 w (sw x a b)≤X4 w x+1∧X4 w x≤X4 w (sw x a b)+1:=by
 unfold X4
 rw[h.1] at ha hb
 rw[Sz (by rw[h.1];exact ha) (by rw[h.1];exact hb) hab]
 have h1:=dZ (H:=fl x) (W:=fl w) ha hb hab al rfl rfl
 have h2:=X3 (H:=fl x) (W:=fl w) ha hb hab al rfl rfl
 omega
theorem SB (w:List Int):X4 w w=0:=by
 unfold X4
 have h:=QL (N:=w.length) (H:=fl w) (W:=fl w) w.length al (by rw[Ng];exact Nat.le_refl _)
 rw[Ng] at h
 have e:card w.length (fun i=>al i && !decide (fl w i=fl w i))=0:=by unfold card;rw[List.countP_eq_zero];intro i _;simp
 omega
end Go.MdM
