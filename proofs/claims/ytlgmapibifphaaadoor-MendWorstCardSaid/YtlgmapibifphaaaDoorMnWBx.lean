/- Made from wip. -/
import Derived.Test.YtlgmapibifphaaaDoorMnWLaw14x
import Derived.Test.YtlgmapibifphaaaDoorSpLendx
import Derived.Test.YtlgmapibifphaaaDoorSpObjx

set_option maxRecDepth 100000
namespace Go.MdM
variable {N:Nat} {H W:Nat→Int}
end Go.MdM
namespace Go.MnWM
open Go.Sp Go.MnW Go.MdM

theorem wN (pu:Af):NL (fun s=>X7 (XU pu 1000000 (Int.ofNat s)) (Int.ofNat ((els 10 (tb s)).headD 16))) 1024=true:=by kernel_rfl
theorem p67 (n s:Nat) (hs:s < 1024):Eb (n+1) 67 [.int .u16 (Int.ofNat s)]=some (I (Int.ofNat ((els 10 (tb s)).headD 16))):=by
 refine Eq.trans (b:=XU (Eb n) 1000000 (Int.ofNat s)) (by kernel_rfl) ?_
 exact Uw (Rp (wN _) s hs)
section
variable (fl fl':Nat) (k:Int) (h w:List Int) (hN:h.length≤10) (hw:w.length=h.length) (hk:Sj h) (hkw:Sj w)
include hN hw hk hkw
end
end Go.MnWM
namespace Go.MdV
def lZ (v:Int):List Int→Nat→Nat→Nat
 | [],_,i=>i
 | x::h,c,i=>if x=v then (match c with | 0=>i | c+1=>lZ v h c (i+1)) else lZ v h c (i+1)
def less (a:Int):List Int→Nat
 | []=>0
 | b::l=>(if b < a then 1 else 0)+less a l
def inv:List Int→Nat
 | []=>0
 | a::l=>less a l+inv l
end Go.MdV
set_option maxRecDepth 100000
namespace Go.MnWM
open Go.Sp Go.MnW Go.MdV
section
variable (pu:Af) (n:Nat)
def put (A:Nat→List Int) (K i:Nat):Nat→List Int:=fun j=>if j=K then A j++[(i:Int)] else A j
end
section
variable (pu:Af) (n:Nat)
def one (U:Nat→Nat) (K:Nat):Nat→Nat:=fun j=>if j=K then U j+1 else U j
end

end Go.MnWM
namespace Go.MdM
variable {N N':Nat} {H W H' W':Nat→Int}
theorem UA (P:Nat→Bn→Bn→Prop)
 (step:∀ c S S',P c S S'→∀ i,i < N→S i=true→(∃ i',i' < N'∧S' i'=true∧P c (del S i) (del S' i'))∨(∃ c',c=c'+1∧P c' (del S i) S'))
 (ev:∀ c S S',P c S S'→Bp N H W S→Bp N' H' W' S'):∀ (k c:Nat) (S S':Bn),card N S≤k→P c S S'→M N H W S≤M N' H' W' S'+c
 | 0,c,S,S',hk,_=>by rw[Hw (by omega)];omega
 | k + 1, c, S, S', hk, hP => by
  by_cases h0:card N S=0
  ·rw[Hw h0];omega
  obtain⟨i,hi,hs,hm⟩:∃ i,i < N∧S i=true∧mx ((els N S).map fun i=>M N H W (del S i))≤M N H W (del S i):=by
   by_cases hz:mx ((els N S).map fun i=>M N H W (del S i))=0
   ·have hl:(els N S).length≠0:=by rw[Gu];exact h0
    obtain⟨i,hi⟩:=List.exists_mem_of_length_pos (Nat.pos_of_ne_zero hl)
    exact⟨i,(Fb.1 hi).1,(Fb.1 hi).2,by omega⟩
   ·obtain⟨i,hi,he⟩:=List.mem_map.1 (PP hz)
    exact⟨i,(Fb.1 hi).1,(Fb.1 hi).2,by omega⟩
  have hc:=FN hi hs
  rw[PQ S h0]
  have ho:=SA (Bp N H W S)
  rcases step c S S' hP i hi hs with⟨i',hi',hs',hP'⟩ | ⟨c',rfl,hP'⟩
  ·have h1:=UA P step ev k c _ _ (by omega) hP'
   by_cases he:Bp N H W S
   ·have h2:=WA hi' hs' (ev _ _ _ hP he)
    omega
   ·have h2:=ZJ (H:=H') (W:=W') hi' hs'
    rw[RS he];omega
  ·have h1:=UA P step ev k c' _ _ (by omega) hP'
   omega
theorem UB {S:Bn}:Bp N H W S↔((els N S).map H).Perm ((els N S).map W):=by
 have e:∀ (f:Nat→Int) (x:Int),((els N S).map f).count x=cn N S f x:=fun f x=>by
  unfold els cn
  rw[List.count_eq_countP,List.countP_map,List.countP_filter]
  refine List.countP_congr fun i _=>?_
  simp only[Function.comp]
  rw[Bool.and_comm]
 rw[List.perm_iff_count]
 unfold Bp
 constructor
 ·intro h x;rw[e,e];exact h x
 ·intro h x;rw[←e,←e];exact h x
structure UU (N N':Nat) (φ:Nat→Nat) (S S':Bn):Prop where
 lt:∀ i,i < N→S i=true→φ i < N'
 inj:∀ i j,i < N→j < N→S i=true→S j=true→φ i=φ j→i=j
 im:∀ j,j < N'→(S' j=true↔∃ i,i < N∧S i=true∧φ i=j)
theorem JO {S:Bn} {i j:Nat}:del S i j=true↔S j=true∧j≠i:=by unfold del;simp
theorem UU.del {φ:Nat→Nat} {S S':Bn} (h:UU N N' φ S S') {i:Nat} (hi:i < N) (hs:S i=true):UU N N' φ (del S i) (del S' (φ i)) where
 lt:=fun k hk hd=>h.lt k hk (JO.1 hd).1
 inj:=fun a b ha hb h1 h2 e=>h.inj a b ha hb (JO.1 h1).1 (JO.1 h2).1 e
 im:=fun j hj=>by
  rw[JO,h.im j hj]
  constructor
  ·rintro⟨⟨a,ha,hsa,e⟩,hne⟩
   exact⟨a,ha,JO.2 ⟨hsa,fun h=>hne (by rw[←e,h])⟩,e⟩
  ·rintro⟨a,ha,hda,e⟩
   obtain⟨hsa,hne⟩:=JO.1 hda
   exact⟨⟨a,ha,hsa,e⟩,fun hj=>hne (h.inj a i ha hi hsa hs (by rw[e,hj]))⟩
theorem Pb (S:Bn):(els N S).Nodup:=List.nodup_range.filter _
theorem UU.perm {φ:Nat→Nat} {S S':Bn} (h:UU N N' φ S S'):(els N' S').Perm ((els N S).map φ):=by
 refine(List.perm_ext_iff_of_nodup (Pb S') ?_).2 fun j=>?_
 ·unfold List.Nodup
  rw[List.pairwise_map]
  refine List.Pairwise.imp_of_mem ?_ (Pb S)
  intro a b ha hb hne e
  exact hne (h.inj a b (Fb.1 ha).1 (Fb.1 hb).1 (Fb.1 ha).2 (Fb.1 hb).2 e)
 ·rw[Fb,List.mem_map]
  constructor
  ·rintro⟨hj,hs⟩
   obtain⟨i,hi,hsi,e⟩:=(h.im j hj).1 hs
   exact⟨i,Fb.2 ⟨hi,hsi⟩,e⟩
  ·rintro⟨i,hi,e⟩
   obtain⟨hi,hs⟩:=Fb.1 hi
   have hl:=h.lt i hi hs
   rw[e] at hl
   exact⟨hl,(h.im j hl).2 ⟨i,hi,hs,e⟩⟩
theorem UU.card {φ:Nat→Nat} {S S':Bn} (h:UU N N' φ S S'):card N' S'=card N S:=by
 rw[←Gu,←Gu,h.perm.length_eq,List.length_map]
def Goes (N:Nat) (φ:Nat→Nat) (g k:Int→Int) (S:Bn) (H W H' W':Nat→Int):Prop:=∀ i,i < N→S i=true→H' (φ i)=g (H i)∧W' (φ i)=g (W i)∧k (g (H i))=H i∧k (g (W i))=W i
theorem Je {S:Bn} {f g:Nat→Int} (h:∀ i,i < N→S i=true→f i=g i):(els N S).map f=(els N S).map g:=
 List.map_congr_left fun i hi=>h i (Fb.1 hi).1 (Fb.1 hi).2
theorem UU.ev {φ:Nat→Nat} {g k:Int→Int} {S S':Bn} (h:UU N N' φ S S') (hg:Goes N φ g k S H W H' W'):Bp N H W S↔Bp N' H' W' S':=by
 have a1:((els N' S').map H').Perm (((els N S).map H).map g):=by
  refine(h.perm.map H').trans ?_
  rw[List.map_map,List.map_map,Je (f:=H' ∘ φ) (g:=g ∘ H) fun i hi hs=>(hg i hi hs).1]
 have a2:((els N' S').map W').Perm (((els N S).map W).map g):=by
  refine(h.perm.map W').trans ?_
  rw[List.map_map,List.map_map,Je (f:=W' ∘ φ) (g:=g ∘ W) fun i hi hs=>(hg i hi hs).2.1]
 have b1:(((els N S).map H).map g).map k=(els N S).map H:=by
  rw[List.map_map,List.map_map];exact Je fun i hi hs=>(hg i hi hs).2.2.1
 have b2:(((els N S).map W).map g).map k=(els N S).map W:=by
  rw[List.map_map,List.map_map];exact Je fun i hi hs=>(hg i hi hs).2.2.2
 rw[UB,UB]
 constructor
 ·intro he
  exact a1.trans ((he.map g).trans a2.symm)
 ·intro he
  have:=(a1.symm.trans (he.trans a2)).map k
  rwa [b1,b2] at this
theorem Goes.del {φ:Nat→Nat} {g k:Int→Int} {S:Bn} (h:Goes N φ g k S H W H' W') (i:Nat):Goes N φ g k (del S i) H W H' W':=fun a ha hd=>h a ha (JO.1 hd).1
theorem wO {φ:Nat→Nat} {g k:Int→Int} {S S':Bn} (h:UU N N' φ S S') (hg:Goes N φ g k S H W H' W'):M N' H' W' S'=M N H W S:=by
 have h1 := UA (N := N) (N' := N') (H := H) (W := W) (H' := H') (W' := W') (fun c S S' => c = 0 ∧ UU N N' φ S S' ∧ Goes N φ g k S H W H' W')
  (fun c S S' hP i hi hs=>.inl ⟨φ i,hP.2.1.lt i hi hs,(hP.2.1.im _ (hP.2.1.lt i hi hs)).2 ⟨i,hi,hs,rfl⟩,hP.1,hP.2.1.del hi hs,hP.2.2.del i⟩)
  (fun c S S' hP he=>(hP.2.1.ev hP.2.2).1 he) _ 0 S S' (Nat.le_refl _) ⟨rfl,h,hg⟩
 have h2 := UA (N := N') (N' := N) (H := H') (W := W') (H' := H) (W' := W) (fun c S' S => c = 0 ∧ UU N N' φ S S' ∧ Goes N φ g k S H W H' W')
  (fun c S' S hP j hj hs => by
    obtain⟨i,hi,hsi,rfl⟩:=(hP.2.1.im j hj).1 hs
    exact .inl ⟨i,hi,hsi,hP.1,hP.2.1.del hi hsi,hP.2.2.del i⟩)
  (fun c S' S hP he=>(hP.2.1.ev hP.2.2).2 he) _ 0 S' S (Nat.le_refl _) ⟨rfl,h,hg⟩
 omega
theorem b1:∀ a b c:Bool,((a && b) && !c)=((a && !c) && b):=by decide
theorem b2:∀ a b c:Bool,((a && !b) && !c)=((a && !c) && !b):=by decide
end Go.MdM
set_option maxRecDepth 100000
namespace Go.MnWM
open Go.Sp Go.MnW Go.MdM
def SC (h w:List Int):Bn:=fun i=>!(fn h i == fn w i)
theorem WL {h w:List Int} (hl:w.length=h.length):∀ i,i < h.length→tb (bv h w) i=SC h w i:=fun i hi=>by
 unfold SC
 rw[Jg hi,Jg (by omega:i < w.length)]
 exact SB h w i hi (by omega)
theorem WM {h w:List Int} (hl:w.length=h.length):CY h w=Int.ofNat (card h.length (SC h w)) - Int.ofNat (M h.length (fn h) (fn w) (SC h w)):=by
 unfold CY Co
 rw[Gq (WL hl),K6 (WL hl)]
theorem wP {h w T U:List Int} (hl:w.length=h.length) (hl2:U.length=T.length) (hc:card T.length (SC T U)=card h.length (SC h w)) (hm:M T.length (fn T) (fn U) (SC T U)=M h.length (fn h) (fn w) (SC h w)):CY T U=CY h w:=by
 rw[WM hl,WM hl2,hc,hm]
structure RY (h w T U:List Int) (φ:Nat→Nat) (g k:Int→Int):Prop where
 lt:∀ i,i < h.length→φ i < T.length
 inj:∀ i j,i < h.length→j < h.length→φ i=φ j→i=j
 hT:∀ i,i < h.length→fn T (φ i)=g (fn h i)
 hU:∀ i,i < h.length→fn U (φ i)=g (fn w i)
 kh:∀ i,i < h.length→k (g (fn h i))=fn h i
 kw:∀ i,i < h.length→k (g (fn w i))=fn w i
 rest:∀ j,j < T.length→(∀ i,i < h.length→φ i≠j)→fn T j=fn U j
theorem RY.emb {h w T U:List Int} {φ:Nat→Nat} {g k:Int→Int} (L:RY h w T U φ g k):UU h.length T.length φ (SC h w) (SC T U) where
 lt:=fun i hi _=>L.lt i hi
 inj:=fun i j hi hj _ _ e=>L.inj i j hi hj e
 im:=fun j hj=>by
  constructor
  ·intro hw
   apply Classical.byContradiction
   intro hn
   by_cases he:∃ i,i < h.length∧φ i=j
   ·obtain⟨i,hi,rfl⟩:=he
    refine hn ⟨i,hi,?_,rfl⟩
    unfold SC at hw ⊢
    rw[L.hT i hi,L.hU i hi] at hw
    simp only[Bool.not_eq_true',beq_eq_false_iff_ne,ne_eq] at hw ⊢
    exact fun e=>hw (by rw[e])
   ·have:=L.rest j hj fun i hi e=>he ⟨i,hi,e⟩
    unfold SC at hw
    simp[this] at hw
  ·rintro⟨i,hi,hs,rfl⟩
   unfold SC at hs ⊢
   rw[L.hT i hi,L.hU i hi]
   simp only[Bool.not_eq_true',beq_eq_false_iff_ne,ne_eq] at hs ⊢
   intro e
   have:=congrArg k e
   rw[L.kh i hi,L.kw i hi] at this
   exact hs this
theorem RY.goes {h w T U:List Int} {φ:Nat→Nat} {g k:Int→Int} (L:RY h w T U φ g k) (S:Bn):Goes h.length φ g k S (fn h) (fn w) (fn T) (fn U):=fun i hi _=>⟨L.hT i hi,L.hU i hi,L.kh i hi,L.kw i hi⟩
theorem RY.M {h w T U:List Int} {φ:Nat→Nat} {g k:Int→Int} (L:RY h w T U φ g k):M T.length (fn T) (fn U) (SC T U)=M h.length (fn h) (fn w) (SC h w):=wO L.emb (L.goes _)
theorem RY.CY {h w T U:List Int} {φ:Nat→Nat} {g k:Int→Int} (L:RY h w T U φ g k) (hl:w.length=h.length) (hl2:U.length=T.length):CY T U=CY h w:=wP hl hl2 L.emb.card L.M
structure OQ (K:Nat) (h w:List Int):Prop where
 k1:1≤K
 k5:K≤5
 n1:1≤h.length
 n10:h.length≤10
 len:w.length=h.length
 ih:L6 K h
 iw:L6 K w
 cnt:∀ v,h.count v=w.count v
theorem OQ.chk {K:Nat} {h w:List Int} (t:OQ K h w):chk K h w=0:=by
 unfold MnWM.chk
 have e:lY (K:Int).toNat h w:=fun x _=>t.cnt x
 rw[I9 ⟨by have:=t.k1;omega,by have:=t.k5;omega⟩,Jd (by have:=t.n1;omega),Jd (by have:=t.n10;omega),I9 t.len,I9 ⟨t.ih,t.iw⟩,I9 e]
theorem OQ.ok {K:Nat} {h w:List Int} (t:OQ K h w):Ok K h w:=wM t.chk
theorem OQ.map {K:Nat} {h w:List Int} (t:OQ K h w) {g:Int→Int} (hg:∀ x:Int,0≤x∧x < K→0≤g x∧g x < K):OQ K (h.map g) (w.map g) where
 k1:=t.k1
 k5:=t.k5
 n1:=by rw[List.length_map];exact t.n1
 n10:=by rw[List.length_map];exact t.n10
 len:=by rw[List.length_map,List.length_map];exact t.len
 ih:=fun x hx=>by obtain⟨y,hy,rfl⟩:=List.mem_map.1 hx;exact hg y (t.ih y hy)
 iw:=fun x hx=>by obtain⟨y,hy,rfl⟩:=List.mem_map.1 hx;exact hg y (t.iw y hy)
 cnt:=fun v=>((List.perm_iff_count.2 t.cnt).map g).count_eq v
theorem MU {l:List Int} {r:Nat} (hr:r < l.length) (v:Int):l.count v=(l.eraseIdx r).count v+if l[r]=v then 1 else 0:=by
 have e:=List.take_append_drop r l
 rw[List.drop_eq_getElem_cons hr] at e
 have e2:l.count v=(l.take r++l[r]::l.drop (r+1)).count v:=by rw[e]
 rw[e2,List.eraseIdx_eq_take_drop_succ,List.count_append,List.count_append,List.count_cons]
 simp
 omega
theorem OQ.erase {K:Nat} {h w:List Int} (t:OQ K h w) {r:Nat} (hr:r < h.length) (he:fn h r=fn w r) (h2:1 < h.length):OQ K (h.eraseIdx r) (w.eraseIdx r) where
 k1:=t.k1
 k5:=t.k5
 n1:=by rw[List.length_eraseIdx,if_pos hr];omega
 n10:=by rw[List.length_eraseIdx,if_pos hr];have:=t.n10;omega
 len:=by have:=t.len;rw[List.length_eraseIdx,List.length_eraseIdx,if_pos hr,if_pos (by omega)];omega
 ih:=fun x hx=>t.ih x (List.mem_of_mem_eraseIdx hx)
 iw:=fun x hx=>t.iw x (List.mem_of_mem_eraseIdx hx)
 cnt:=fun v=>by
  have hw:r < w.length:=by have:=t.len;omega
  have e1:=MU hr v
  have e2:=MU hw v
  rw[Jg hr,Jg hw] at he
  have:=t.cnt v
  rw[he] at e1
  omega
end Go.MnWM
set_option maxRecDepth 100000
set_option maxHeartbeats 4000000
namespace Go.MnWM
open Go.Sp Go.MnW Go.MdM Go.MdV
theorem zJ (l:List Int):Au Ah (l.map I)=true:=by rw[Bh,kL]
theorem zK {a b:Nat} (h:a < b):an (Nat.blt a b) true=true:=by rw[CF,blt_eq,decide_eq_true h];rfl
theorem zL {a:Nat} (h:a≠0):Nat.beq a 0=false:=by
 cases a with
 | zero=>exact absurd rfl h
 | succ a=>rfl
section
variable (pu:Af) (m:Nat) (q:List Value) (x:Nat→Int) (hq:∀ i,i < 22→AL q i=some (.int .u8 (x i))) (hc:Au Ah q=true) (hx:∀ i,0≤x i∧x i < 256)
include hq hc hx
end
end Go.MnWM
set_option maxRecDepth 100000
namespace Go.RgP
open Go Go.Sp

abbrev IV (z:Int):Value:=.int .i64 z
def Gp (ps:List (Nat×Nat)) (i:Nat):List EO:=(match ps with | []=>[] | (d,c)::r=>⟨IV (Int.ofNat d),IV (Int.ofNat c),i⟩::Gp r (i+1))
def Fp (ps:List (Nat×Nat)):List EO:=Gp ps 0
def look (d:Nat):List (Nat×Nat)→Nat
 | []=>0
 | (k,c)::r=>bif Nat.beq d k then c else look d r
theorem Pe:∀ {ps:List (Nat×Nat)} {i:Nat} {e:EO},e∈Gp ps i→∃ j d c,ps[j]?=some (d,c)∧e=⟨IV (Int.ofNat d),IV (Int.ofNat c),i+j⟩
 | [],_,_,h=>by cases h
 | (d, c) :: r, i, e, h => by
  rcases List.mem_cons.1 h with rfl | h
  ·exact⟨0,d,c,rfl,rfl⟩
  ·obtain⟨j,d',c',h1,h2⟩:=Pe h
   exact⟨j+1,d',c',h1,by rw[h2];congr 1;omega⟩
theorem LW:∀ (ps:List (Nat×Nat)) (i:Nat),Au F4 (Gp ps i)=true
 | [],_=>rfl
 | (d, c) :: r, i => by
  have e:=LW r (i+1)
  show an (F4 ⟨IV (Int.ofNat d),IV (Int.ofNat c),i⟩) (Au F4 (Gp r (i+1)))=true
  rw[e];rfl
theorem DT (ps:List (Nat×Nat)):Au F4 (Fp ps)=true:=LW ps 0
theorem Pf : ∀ (ps : List (Nat × Nat)) (i k : Nat), i + ps.length ≤ k → Au (fun e => Nat.blt (EO.born e) k) (Gp ps i) = true
 | [],_,_,_=>rfl
 | (d, c) :: r, i, k, h => by
  have e:=Pf r (i+1) k (by simp at h;omega)
  show an (Nat.blt i k) (Au (fun e=>Nat.blt (EO.born e) k) (Gp r (i+1)))=true
  rw[e,show Nat.blt i k=true from Nat.ble_eq_true_of_le (by simp at h;omega)];rfl
theorem WN (ps:List (Nat×Nat)):Au (fun e=>Nat.blt (EO.born e) ps.length) (Fp ps)=true:=Pf ps 0 _ (by omega)
def place (d:Nat):List (Nat×Nat)→Option (Nat×Nat)
 | []=>none
 | (k,c)::r=>bif Nat.beq d k then some (0,c) else (place d r).map fun p=>(p.1+1,p.2)
theorem UV (a b:Int):IG (IV a) (IV b)=some (Bd a b):=rfl
theorem Yh (a b:Nat):Bd (Int.ofNat a) (Int.ofNat b)=Nat.beq a b:=rfl
theorem M8 (d : Nat) : ∀ (ps : List (Nat × Nat)) (i j : Nat), GD (IV (Int.ofNat d)) (Gp ps i) j = some ((place d ps).map fun p => (j + p.1, IV (Int.ofNat p.2)))
 | [],_,_=>rfl
 | (k, c) :: r, i, j => by
  show oo (IG (IV (Int.ofNat d)) (IV (Int.ofNat k))) none (fun b=>bb b (some (some (j,IV (Int.ofNat c)))) (GD (IV (Int.ofNat d)) (Gp r (i+1)) (j+1)))=_
  rw[UV,Ac,Yh]
  show _=some (Option.map _ (bif Nat.beq d k then some (0,c) else (place d r).map fun p=>(p.1+1,p.2)))
  cases hb:Nat.beq d k with
  | true=>rw[Ak];rfl
  | false =>
   rw[AA,M8 d r (i+1) (j+1)]
   show some _=some (Option.map _ ((place d r).map fun p=>(p.1+1,p.2)))
   cases place d r with
   | none=>rfl
   | some p=>simp;omega
theorem OT (d:Nat) (ps:List (Nat×Nat)):GD (IV (Int.ofNat d)) (Fp ps) 0=some ((place d ps).map fun p=>(p.1,IV (Int.ofNat p.2))):=by
 unfold Fp
 rw[M8]
 cases place d ps with
 | none=>rfl
 | some p=>simp
theorem OU:∀ (ps:List (Nat×Nat)) (i j d c:Nat),ps[j]?=some (d,c)→Xl (i+j) (Gp ps i)=some ⟨IV (Int.ofNat d),IV (Int.ofNat c),i+j⟩
 | [],_,_,_,_,h=>by simp at h
 | (k, c') :: r, i, j, d, c, h => by
  show bb (Nat.beq i (i+j)) (some (⟨IV (Int.ofNat k),IV (Int.ofNat c'),i⟩:EO)) (Xl (i+j) (Gp r (i+1)))=_
  cases j with
  | zero =>
   simp at h
   obtain⟨rfl,rfl⟩:=h
   rw[Nat.add_zero,Nat.beq_refl,Ak]
  | succ j =>
   have:Nat.beq i (i+(j+1))=false:=by
    cases hb:Nat.beq i (i+(j+1)) with
    | false=>rfl
    | true=>have:=Nat.eq_of_beq_eq_true hb;omega
   have e:=OU r (i+1) j d c (by simpa using h)
   rw[this,AA,show i+(j+1)=i+1+j by omega,e]
theorem SE:∀ (l:List Nat) (a:Nat),Xk (Br l [a])=some a:=fun l a=>by rw[Tm,BH];simp
theorem UW (ps:List (Nat×Nat)) (seen:List Nat) (j d c:Nat) (h:ps[j]?=some (d,c)):bL (Fp ps) ps.length (Br seen [j]) ps.length=some (.tuple ⟨[IV (Int.ofNat d),IV (Int.ofNat c)]⟩):=by
 have e:=OU ps 0 j d c h
 rw[Nat.zero_add] at e
 show oo (bb (Nat.beq ps.length ps.length) (oo (Xk (Br seen [j])) none fun s=>Xl s (Fp ps)) none) none (fun e=>some (Value.tuple ⟨[e.key,e.val]⟩))=_
 rw[Nat.beq_refl,Ak,SE,Ac]
 show oo (Xl j (Gp ps 0)) none _=_
 rw[e];rfl
def left (n:Nat) (seen:List Nat):List Nat:=(List.range n).filter fun i=>decide (i ∉ seen)
theorem RZ {n i:Nat} {seen:List Nat}:i∈left n seen↔i < n∧i ∉ seen:=by unfold left;simp
theorem SF (n:Nat) (seen:List Nat):(left n seen).Nodup:=List.Nodup.sublist List.filter_sublist List.nodup_range
theorem UX {ps:List (Nat×Nat)} {seen:List Nat} (h:IY (Fp ps) seen=[]):left ps.length seen=[]:=by
 cases hl:left ps.length seen with
 | nil=>rfl
 | cons i r =>
  exfalso
  have hi:i∈left ps.length seen:=by rw[hl];exact List.mem_cons_self
  obtain⟨h1,h2⟩:=RZ.1 hi
  have key:∀ (qs:List (Nat×Nat)) (k j:Nat),j < qs.length→∃ e∈Gp qs k,e.born=k+j:=by
   intro qs
   induction qs with
   | nil=>intro k j hj;simp at hj
   | cons q qs ih =>
    intro k j hj
    obtain⟨d,c⟩:=q
    cases j with
    | zero=>exact⟨_,List.mem_cons_self,rfl⟩
    | succ j =>
     obtain⟨e,he,hb⟩:=ih (k+1) j (by simpa using hj)
     exact⟨e,List.mem_cons_of_mem _ he,by rw[hb];omega⟩
  obtain⟨e,he,hb⟩:=key ps 0 i h1
  have:e∈IY (Fp ps) seen:=Qe.2 ⟨he,by rw[hb,Nat.zero_add];exact h2⟩
  rw[h] at this;cases this
theorem WO {ps:List (Nat×Nat)} {seen:List Nat} {e:EO} (h:e∈IY (Fp ps) seen):∃ d c,ps[e.born]?=some (d,c)∧e.born∈left ps.length seen:=by
 obtain⟨h1,h2⟩:=Qe.1 h
 obtain⟨j,d,c,h3,h4⟩:=Pe h1
 rw[Nat.zero_add] at h4
 have hb:e.born=j:=by rw[h4]
 rw[hb] at h2 ⊢
 exact⟨d,c,h3,RZ.2 ⟨(List.getElem?_eq_some_iff.1 h3).1,h2⟩⟩
theorem Pg {n i:Nat} {seen:List Nat}:left n (Br seen [i])=(left n seen).filter fun j=>decide (j≠i):=by
 unfold left
 rw[List.filter_filter]
 congr 1
 funext j
 rw[BH]
 simp
 by_cases h:j=i <;> simp[h]
theorem UY {n i:Nat} {seen:List Nat} (h:i∈left n seen):(left n (Br seen [i])).length < (left n seen).length:=by
 rw[Pg]
 have hp:((left n seen).filter fun j=>decide (j≠i))≠left n seen:=fun e=>by
  have:=List.filter_eq_self.1 e i h
  simp at this
 exact Nat.lt_of_le_of_ne (List.filter_sublist).length_le fun h=>hp ((List.filter_sublist).eq_of_length h)
end Go.RgP
namespace Go.MdM
variable {N:Nat} {H W:Nat→Int}
def Pk (N:Nat) (H W:Nat→Int) (S:Bn) (L:List Bn):Prop:=
 L.Pairwise (fun A B=>∀ i,i < N→¬ (A i=true∧B i=true))∧∀ D∈L,MR N D S∧Bp N H W D∧∃ i,i < N∧D i=true
def un (L:List Bn):Bn:=fun i=>L.any fun D=>D i
theorem UC (D:Bn) (L:List Bn) (i:Nat):un (D::L) i=(D i || un L i):=rfl
theorem K9 {L:List Bn} {i:Nat}:un L i=true↔∃ D∈L,D i=true:=by unfold un;rw[List.any_eq_true]
theorem ZL {A B:Bn} (ha:Bp N H W A) (hb:Bp N H W B) (hd:∀ i,i < N→¬ (A i=true∧B i=true)):Bp N H W (fun i=>A i || B i):=fun x=>by
 rw[Jb (S:=fun i=>A i || B i) (A:=A) (B:=B) H x (fun _ _=>rfl) hd,Jb (S:=fun i=>A i || B i) (A:=A) (B:=B) W x (fun _ _=>rfl) hd,ha x,hb x]
theorem UD {S:Bn} (h:∀ i,i < N→S i=false) (f:Nat→Int) (x:Int):cn N S f x=0:=by
 unfold cn
 rw[List.countP_eq_zero]
 intro i hi
 rw[h i (List.mem_range.1 hi)];simp
theorem Yi {S:Bn} (h:∀ i,i < N→S i=false):Bp N H W S:=fun x=>by rw[UD h,UD h]
theorem Qu {S D:Bn} {L:List Bn} (h:Pk N H W S (D::L)):Pk N H W S L:=⟨(List.pairwise_cons.1 h.1).2,fun E hE=>h.2 E (by simp[hE])⟩
theorem UE:∀ {L:List Bn} {S:Bn},Pk N H W S L→Bp N H W (un L)
 | [],_,_=>Yi fun _ _=>rfl
 | D :: L, S, h => by
  have ih:=UE (Qu h)
  have hd:∀ i,i < N→¬ (D i=true∧un L i=true):=fun i hi ⟨h1,h2⟩=>by
   obtain⟨E,hE,h3⟩:=K9.1 h2
   exact(List.pairwise_cons.1 h.1).1 E hE i hi ⟨h1,h3⟩
  exact ZL (h.2 D (by simp)).2.1 ih hd
theorem Qv {L:List Bn} {S:Bn} (h:Pk N H W S L):MR N (un L) S:=fun i hi hu=>by
 obtain⟨D,hD,h1⟩:=K9.1 hu
 exact(h.2 D hD).1 i hi h1
theorem wQ {L:List Bn} {S:Bn} (h:Pk N H W S L):Pk N H W (un L) L:=⟨h.1,fun D hD=>⟨fun i _ h1=>K9.2 ⟨D,hD,h1⟩,(h.2 D hD).2⟩⟩
theorem OW:∀ {L:List Bn} {S:Bn},Pk N H W S L→L.length≤M N H W S
 | [],_,_=>Nat.zero_le _
 | D :: L, S, h => by
  have ih:=OW (wQ (Qu h))
  obtain⟨i,hi,hD⟩:=(h.2 D (by simp)).2.2
  have hn:un L i=false:=by
   cases hu:un L i with
   | false=>rfl
   | true =>
    obtain⟨E,hE,h3⟩:=K9.1 hu
    exact absurd ⟨hD,h3⟩ ((List.pairwise_cons.1 h.1).1 E hE i hi)
  have h1:=MF (A:=un L) (B:=un (D::L)) (i:=i) (fun j _ hj=>by rw[UC,hj,Bool.or_true]) hi (by rw[UC,hD];rfl) hn (UE h)
  have h2:=(Qv h).M (H:=H) (W:=W)
  simp only[List.length_cons]
  omega
theorem ZM:∀ (k:Nat) (S:Bn),card N S≤k→∃ L,Pk N H W S L∧L.length=M N H W S
 | 0,S,h=>⟨[],⟨List.Pairwise.nil,fun D hD=>by cases hD⟩,(Hw (by omega)).symm⟩
 | k + 1, S, h => by
  by_cases hc:card N S=0
  ·exact⟨[],⟨List.Pairwise.nil,fun D hD=>by cases hD⟩,(Hw hc).symm⟩
  have hM:=PQ (H:=H) (W:=W) S hc
  -- a place whose loss costs least
  have hex:∃ i,i < N∧S i=true∧mx ((els N S).map fun i=>M N H W (del S i))=M N H W (del S i):=by
   by_cases h0:mx ((els N S).map fun i=>M N H W (del S i))=0
   ·have hl:(els N S).length≠0:=by rw[Gu];exact hc
    obtain⟨i,l,hil⟩:∃ i l,els N S=i::l:=by
     cases he:els N S with
     | nil=>rw[he] at hl;simp at hl
     | cons i l=>exact⟨i,l,rfl⟩
    have hi:i∈els N S:=by rw[hil];simp
    have:=Uq (l:=(els N S).map fun i=>M N H W (del S i)) (List.mem_map.2 ⟨i,hi,rfl⟩)
    exact⟨i,(Fb.1 hi).1,(Fb.1 hi).2,by omega⟩
   ·obtain⟨i,hi,e⟩:=List.mem_map.1 (PP h0)
    exact⟨i,(Fb.1 hi).1,(Fb.1 hi).2,e.symm⟩
  obtain⟨i,hi,hs,e⟩:=hex
  have hcd:=FN hi hs
  obtain⟨L,hL,hlen⟩:=ZM k (del S i) (by omega)
  have hsub:MR N (del S i) S:=fun j _ hj=>by unfold del at hj;simp at hj;exact hj.1
  have hL':Pk N H W S L:=⟨hL.1,fun D hD=>⟨fun j hj h1=>hsub j hj ((hL.2 D hD).1 j hj h1),(hL.2 D hD).2⟩⟩
  by_cases he:Bp N H W S
  ·rw[RQ he] at hM
   have hu:=UE hL
   refine⟨(fun j=>S j && !un L j)::L,⟨List.pairwise_cons.2 ⟨fun E hE j hj ⟨h1,h2⟩=>?_,hL.1⟩,fun D hD=>?_⟩,?_⟩
   ·simp only[Bool.and_eq_true,Bool.not_eq_true'] at h1
    rw[K9.2 ⟨E,hE,h2⟩] at h1;exact absurd h1.2 (by decide)
   ·rcases List.mem_cons.1 hD with rfl | hD
    ·refine⟨fun j _ h1=>?_,Qp (Qv hL') hu he,i,hi,?_⟩
     ·simp only[Bool.and_eq_true] at h1;exact h1.1
     ·have : un L i = false := by
       cases hq:un L i with
       | false=>rfl
       | true =>
        have:=Qv hL i hi hq
        unfold del at this;simp at this
      show (S i && !un L i)=true
      rw[hs,this];rfl
    ·exact hL'.2 D hD
   ·rw[List.length_cons,hlen,hM,e]
  ·rw[RS he] at hM
   exact⟨L,hL',by rw[hlen,hM,e];rfl⟩
theorem Qw (S:Bn):∃ L,Pk N H W S L∧L.length=M N H W S:=ZM (card N S) S (Nat.le_refl _)

theorem Ph {i:Nat} (hr:H i=W i):Bp N H W (fun j=>j == i):=fun x=>by
 unfold cn
 apply List.countP_congr
 intro j _
 by_cases e:j=i
 ·subst e;rw[hr]
 ·simp[e]
theorem kY {S:Bn} {i:Nat} (hi:i < N) (hr:H i=W i) (hs:S i=true):Bp N H W S↔Bp N H W (del S i):=by
 constructor
 ·intro h x
  have:=h x
  rw[Gn hi hs,Gn hi hs,hr] at this
  omega
 ·intro h x
  rw[Gn hi hs,Gn hi hs,hr,h x]
theorem Yj {S:Bn} {i:Nat} (hi:i < N) (hr:H i=W i) (hs:S i=true):M N H W S=M N H W (del S i)+1:=by
 apply Nat.le_antisymm
 ·obtain⟨L,hL,hlen⟩:=Qw (N:=N) (H:=H) (W:=W) S
  rw[←hlen]
  -- at most one of the sets has the place
  have key:∀ (L:List Bn),Pk N H W S L→∃ L',Pk N H W (del S i) L'∧L.length≤L'.length+1∧(∀ D∈L',∃ E∈L,MR N D E)∧((∀ D∈L,D i=false)→L.length≤L'.length):=by
   intro L
   induction L with
   | nil=>exact fun _=>⟨[],⟨List.Pairwise.nil,fun D hD=>by cases hD⟩,by simp,fun D hD=>(by cases hD),fun _=>Nat.le_refl _⟩
   | cons D L ih =>
    intro h
    obtain⟨L',h1,h2,h3,h4⟩:=ih (Qu h)
    have hp:=(List.pairwise_cons.1 h.1).1
    obtain⟨hDs,hDe,j,hj,hDj⟩:=h.2 D (by simp)
    have hdis:∀ A:Bn,MR N A D→∀ E∈L',∀ k,k < N→¬ (A k=true∧E k=true):=fun A hA E hE k hk ⟨q1,q2⟩=>by
     obtain⟨E2,hE2,hs2⟩:=h3 E hE
     exact hp E2 hE2 k hk ⟨hA k hk q1,hs2 k hk q2⟩
    have h3':∀ E∈L',∃ F∈D::L,MR N E F:=fun E hE=>by
     obtain⟨F,hF,hs⟩:=h3 E hE
     exact⟨F,by simp[hF],hs⟩
    cases hDi:D i with
    | false =>
     refine⟨D::L',⟨List.pairwise_cons.2 ⟨hdis D (fun _ _ h=>h),h1.1⟩,fun E hE=>?_⟩,by simp;omega,fun E hE=>?_,fun hall=>?_⟩
     ·rcases List.mem_cons.1 hE with rfl | hE
      ·refine⟨fun k hk h5=>?_,hDe,j,hj,hDj⟩
       unfold del
       rw[hDs k hk h5]
       by_cases e:k=i
       ·subst e;rw[hDi] at h5;cases h5
       ·simp[e]
      ·exact h1.2 E hE
     ·rcases List.mem_cons.1 hE with rfl | hE
      ·exact⟨E,by simp,fun _ _ h=>h⟩
      ·exact h3' E hE
     ·have:=h4 fun E hE=>hall E (by simp[hE])
      simp;exact this
    | true =>
     have hrest:∀ E∈L,E i=false:=fun E hE=>by
      cases q:E i with
      | false=>rfl
      | true=>exact absurd ⟨hDi,q⟩ (hp E hE i hi)
     have h5:=h4 hrest
     exact⟨L',h1,by simp;omega,h3',fun hall=>by rw[hall D (by simp)] at hDi;cases hDi⟩
  obtain⟨L',h1,h2,_,_⟩:=key L hL
  have:=OW h1
  omega
 ·obtain⟨L,hL,hlen⟩:=Qw (N:=N) (H:=H) (W:=W) (del S i)
  have hnew:Pk N H W S ((fun j=>j == i)::L):=by
   refine⟨List.pairwise_cons.2 ⟨fun E hE j hj ⟨q1,q2⟩=>?_,hL.1⟩,fun D hD=>?_⟩
   ·have e:j=i:=by simpa using q1
    subst e
    have:=(hL.2 E hE).1 j hj q2
    unfold del at this;simp at this
   ·rcases List.mem_cons.1 hD with rfl | hD
    ·exact⟨fun j _ q=>by have e:j=i:=(by simpa using q);subst e;exact hs,Ph hr,i,hi,by simp⟩
    ·exact⟨fun j hj q=>by have:=(hL.2 D hD).1 j hj q;unfold del at this;simp at this;exact this.1,(hL.2 D hD).2⟩
  have:=OW hnew
  rw[List.length_cons,hlen] at this
  exact this

def M9 (f:Nat→Int) (a b:Nat):Nat→Int:=fun i=>if i=a then f b else if i=b then f a else f i
theorem UF (f:Nat→Int) (a b:Nat):M9 (M9 f a b) a b=f:=by
 funext i
 unfold M9
 by_cases h1:i=a
 ·subst h1
  rw[if_pos rfl]
  by_cases h2:b=i
  ·subst h2;simp
  ·rw[if_neg h2,if_pos rfl]
 ·rw[if_neg h1]
  by_cases h2:i=b
  ·subst h2;simp
  ·rw[if_neg h2,if_neg h1,if_neg h2]
theorem WP {S:Bn} {f g:Nat→Int} (h:∀ i,i < N→S i=true→f i=g i) (x:Int):cn N S f x=cn N S g x:=by
 unfold cn
 apply List.countP_congr
 intro i hi
 by_cases hs:S i=true
 ·rw[h i (List.mem_range.1 hi) hs]
 ·simp[hs]
theorem WQ {S:Bn} {a b:Nat} (ha:a < N) (hb:b < N) (hab:a≠b) (hsa:S a=true) (hsb:S b=true) (f:Nat→Int) (x:Int):cn N S (M9 f a b) x=cn N S f x:=by
 have hsb':del S a b=true:=by unfold del;rw[hsb];simp;exact fun e=>hab e.symm
 rw[Gn ha hsa,Gn hb hsb',Gn ha hsa f,Gn hb hsb' f]
 rw[WP (S:=del (del S a) b) (f:=M9 f a b) (g:=f) fun i _ hi=>by
  unfold del at hi;simp at hi
  unfold M9;rw[if_neg hi.1.2,if_neg hi.2]]
 have e1:M9 f a b a=f b:=by unfold M9;rw[if_pos rfl]
 have e2:M9 f a b b=f a:=by unfold M9;rw[if_neg (fun e=>hab e.symm),if_pos rfl]
 rw[e1,e2];omega
theorem Qz {S:Bn} {a b:Nat} (ha:a < N) (hb:b < N) (hab:a≠b) (h:(S a=true∧S b=true)∨(S a=false∧S b=false)) (he:Bp N H W S):Bp N (M9 H a b) W S:=fun x=>by
 rw[←he x]
 rcases h with⟨h1,h2⟩ | ⟨h1,h2⟩
 ·exact WQ ha hb hab h1 h2 H x
 ·apply WP
  intro i _ hi
  unfold M9
  rw[if_neg (fun e=>by subst e;rw[h1] at hi;cases hi),if_neg (fun e=>by subst e;rw[h2] at hi;cases hi)]
theorem MG {S:Bn} {L:List Bn} (h:Pk N H W S L) (q:Bn→Bool):Pk N H W S (L.filter q):=⟨h.1.filter q,fun D hD=>h.2 D (List.mem_filter.1 hD).1⟩
theorem one_has {L:List Bn} {S:Bn} (h:Pk N H W S L) {i:Nat} (hi:i < N):(L.filter fun D=>D i).length≤1:=by
 have:=(MG h fun D=>D i)
 cases hl:L.filter (fun D=>D i) with
 | nil=>simp
 | cons A L1 =>
  cases L1 with
  | nil=>simp
  | cons B L2 =>
   rw[hl] at this
   have hA:A i=true:=(List.mem_filter.1 (show A∈L.filter (fun D=>D i) by rw[hl];simp)).2
   have hB:B i=true:=(List.mem_filter.1 (show B∈L.filter (fun D=>D i) by rw[hl];simp)).2
   exact absurd ⟨hA,hB⟩ ((List.pairwise_cons.1 this.1).1 B (by simp) i hi)
theorem Pi (L:List Bn) (q:Bn→Bool):L.length=(L.filter q).length+(L.filter fun D=>!q D).length:=by
 induction L with
 | nil=>rfl
 | cons A L ih =>
  simp only[List.filter_cons,List.length_cons]
  cases q A <;> simp <;> omega
theorem ZN {a b:Nat} (ha:a < N) (hb:b < N) (hab:a≠b) (S:Bn) (hsa:S a=true) (hsb:S b=true):M N H W S≤M N (M9 H a b) W S+1:=by
 obtain⟨L,hL,hlen⟩:=Qw (N:=N) (H:=H) (W:=W) S
 -- the sets with neither
 have h0:=MG hL fun D=>!(D a || D b)
 have hn:Pk N (M9 H a b) W S (L.filter fun D=>!(D a || D b)):=⟨h0.1,fun D hD=>by
  obtain⟨q1,q2,q3⟩:=h0.2 D hD
  have:=(List.mem_filter.1 hD).2
  simp at this
  exact⟨q1,Qz ha hb hab (.inr this) q2,q3⟩⟩
 have hs:=Pi L fun D=>D a || D b
 have hA:=one_has hL ha
 have hB:=one_has hL hb
 have hsum:(L.filter fun D=>D a || D b).length≤(L.filter fun D=>D a).length+(L.filter fun D=>D b).length:=by
  clear hL hlen h0 hn hs hA hB
  induction L with
  | nil=>exact Nat.zero_le _
  | cons A L ih =>
   simp only[List.filter_cons]
   cases A a <;> cases A b <;> simp <;> omega
 have hle:=OW hn
 by_cases h2:(L.filter fun D=>D a || D b).length≤1
 ·omega
 ·-- two sets: together they are even
  have eA:(L.filter fun D=>D a).length=1:=by omega
  have eB:(L.filter fun D=>D b).length=1:=by omega
  obtain⟨A,hA1⟩:=List.length_eq_one_iff.1 eA
  obtain⟨B,hB1⟩:=List.length_eq_one_iff.1 eB
  have mA:A∈L∧A a=true:=List.mem_filter.1 (show A∈L.filter (fun D=>D a) by rw[hA1];simp)
  have mB:B∈L∧B b=true:=List.mem_filter.1 (show B∈L.filter (fun D=>D b) by rw[hB1];simp)
  have hun:∀ (L:List Bn),Pk N H W S L→A∈L→B∈L→(∀ i,i < N→¬ (A i=true∧B i=true))∨A=B:=by
   intro L hL hA hB
   by_cases e:A=B
   ·exact .inr e
   ·left
    have:=hL.1
    clear hL
    induction L with
    | nil=>cases hA
    | cons C L ih =>
     obtain⟨p1,p2⟩:=List.pairwise_cons.1 this
     rcases List.mem_cons.1 hA with rfl | hA' <;> rcases List.mem_cons.1 hB with rfl | hB'
     ·exact absurd rfl e
     ·exact p1 B hB'
     ·exact fun i hi ⟨h1,h2⟩=>p1 A hA' i hi ⟨h2,h1⟩
     ·exact ih hA' hB' p2
  have hdis:∀ i,i < N→¬ (A i=true∧B i=true):=by
   rcases hun L hL mA.1 mB.1 with h | h
   ·exact h
   ·exfalso
    subst h
    -- one set has both: then the first count is 1
    apply h2
    have:∀ D∈L,(D a || D b)=true→D a=true:=fun D hD h=>by
     cases hDa:D a with
     | true=>rfl
     | false =>
      rw[hDa,Bool.false_or] at h
      have hDm:D∈L.filter (fun D=>D b):=List.mem_filter.2 ⟨hD,h⟩
      rw[hB1] at hDm
      rw[List.mem_singleton.1 hDm,mA.2] at hDa;cases hDa
    have e:(L.filter fun D=>D a || D b)=L.filter fun D=>D a:=by
     apply List.filter_congr
     intro D hD
     cases hDa:D a with
     | true=>rfl
     | false =>
      cases hDb:D b with
      | false=>rfl
      | true=>have:=this D hD (by rw[hDb,Bool.or_true]);rw[hDa] at this;cases this
    rw[e,eA];exact Nat.le_refl _
  obtain⟨sA,vA,iA,hiA,tA⟩:=hL.2 A mA.1
  obtain⟨sB,vB,_⟩:=hL.2 B mB.1
  have hnew:Pk N (M9 H a b) W S ((fun i=>A i || B i)::L.filter fun D=>!(D a || D b)):=by
   refine⟨List.pairwise_cons.2 ⟨fun E hE i hi ⟨q1,q2⟩=>?_,hn.1⟩,fun D hD=>?_⟩
   ·obtain⟨mE,nE⟩:=List.mem_filter.1 hE
    simp at nE
    have hne:∀ C∈L,(∃ x,C x=true∧E x=false)→∀ j,j < N→¬ (C j=true∧E j=true):=fun C hC hx=>by
     intro j hj ⟨w1,w2⟩
     obtain⟨x,x1,x2⟩:=hx
     have hCE:C≠E:=fun e=>by subst e;rw[x1] at x2;cases x2
     have hp:=hL.1
     have:∀ (L:List Bn),L.Pairwise (fun A B=>∀ i,i < N→¬ (A i=true∧B i=true))→C∈L→E∈L→False:=by
      intro L
      induction L with
      | nil=>intro _ h;cases h
      | cons F L ih =>
       intro hp h1 h2
       obtain⟨p1,p2⟩:=List.pairwise_cons.1 hp
       rcases List.mem_cons.1 h1 with rfl | h1' <;> rcases List.mem_cons.1 h2 with rfl | h2'
       ·exact hCE rfl
       ·exact p1 E h2' j hj ⟨w1,w2⟩
       ·exact p1 C h1' j hj ⟨w2,w1⟩
       ·exact ih p2 h1' h2'
     exact this L hp hC mE
    simp only[Bool.or_eq_true] at q1
    rcases q1 with q1 | q1
    ·exact hne A mA.1 ⟨a,mA.2,nE.1⟩ i hi ⟨q1,q2⟩
    ·exact hne B mB.1 ⟨b,mB.2,nE.2⟩ i hi ⟨q1,q2⟩
   ·rcases List.mem_cons.1 hD with rfl | hD
    ·refine⟨fun i hi h=>?_,Qz ha hb hab (.inl ⟨by rw[mA.2];rfl,by rw[mB.2,Bool.or_true]⟩) (ZL vA vB hdis),iA,hiA,by show (A iA || B iA)=true;rw[tA];rfl⟩
     simp only[Bool.or_eq_true] at h
     rcases h with h | h
     ·exact sA i hi h
     ·exact sB i hi h
    ·exact hn.2 D hD
  have:=OW hnew
  rw[List.length_cons] at this
  omega
theorem R3 {a b:Nat} (ha:a < N) (hb:b < N) (hab:a≠b) (S:Bn) (hsa:S a=true) (hsb:S b=true):M N (M9 H a b) W S≤M N H W S+1:=by
 have:=ZN (H:=M9 H a b) (W:=W) ha hb hab S hsa hsb
 rwa [UF] at this
theorem kZ {S:Bn} (he:Bp N H W S) {w:Nat} (hw:w < N) (hs:S w=true) (hne:H w≠W w):∃ b,b < N∧b≠w∧S b=true∧M N (M9 H w b) W S=M N H W S+1:=by
 obtain⟨L,hL,hlen⟩:=Qw (N:=N) (H:=H) (W:=W) S
 have hu:=UE hL
 -- every place is in a set
 have hall:un L w=true:=by
  cases hq:un L w with
  | true=>rfl
  | false =>
   have hnew:Pk N H W S ((fun j=>S j && !un L j)::L):=by
    refine⟨List.pairwise_cons.2 ⟨fun E hE j hj ⟨h1,h2⟩=>?_,hL.1⟩,fun D hD=>?_⟩
    ·simp only[Bool.and_eq_true,Bool.not_eq_true'] at h1
     rw[K9.2 ⟨E,hE,h2⟩] at h1;exact absurd h1.2 (by decide)
    ·rcases List.mem_cons.1 hD with rfl | hD
     ·refine⟨fun j _ h1=>?_,Qp (Qv hL) hu he,w,hw,by show (S w && !un L w)=true;rw[hs,hq];rfl⟩
      simp only[Bool.and_eq_true] at h1;exact h1.1
     ·exact hL.2 D hD
   have:=OW hnew
   rw[List.length_cons] at this
   omega
 obtain⟨D,hD,hDw⟩:=K9.1 hall
 obtain⟨sD,vD,_⟩:=hL.2 D hD
 -- who has what the place wants
 have hc:cn N D H (W w)≠0:=by
  rw[vD (W w),Gn hw hDw,if_pos rfl];omega
 have:∃ b,b < N∧D b=true∧H b=W w:=by
  apply Classical.byContradiction
  intro hno
  apply hc
  unfold cn
  rw[List.countP_eq_zero]
  intro b hb
  simp only[Bool.and_eq_true,beq_iff_eq]
  exact fun ⟨q1,q2⟩=>hno ⟨b,List.mem_range.1 hb,q1,q2⟩
 obtain⟨b,hb,hDb,hHb⟩:=this
 have hbw:b≠w:=fun e=>hne (by rw[←e] at hne ⊢;rw[e] at hHb ⊢;exact hHb)
 refine⟨b,hb,hbw,sD b hb hDb,Nat.le_antisymm (R3 hw hb (fun e=>hbw e.symm) S hs (sD b hb hDb)) ?_⟩
 have hr:M9 H w b w=W w:=by unfold M9;rw[if_pos rfl];exact hHb
 have vD':Bp N (M9 H w b) W D:=Qz hw hb (fun e=>hbw e.symm) (.inl ⟨hDw,hDb⟩) vD
 have vD2:=(kY hw hr hDw).1 vD'
 -- the other sets
 have hother:∀ E∈L,E≠D→E w=false∧E b=false:=fun E hE hne=>by
  have:∀ (L:List Bn),L.Pairwise (fun A B=>∀ i,i < N→¬ (A i=true∧B i=true))→D∈L→E∈L→∀ i,i < N→D i=true→E i=false:=by
   intro L
   induction L with
   | nil=>intro _ h;cases h
   | cons F L ih =>
    intro hp h1 h2 i hi hDi
    obtain⟨p1,p2⟩:=List.pairwise_cons.1 hp
    cases hEi:E i with
    | false=>rfl
    | true =>
     exfalso
     rcases List.mem_cons.1 h1 with rfl | h1' <;> rcases List.mem_cons.1 h2 with rfl | h2'
     ·exact hne rfl
     ·exact p1 E h2' i hi ⟨hDi,hEi⟩
     ·exact p1 D h1' i hi ⟨hEi,hDi⟩
     ·have:=ih p2 h1' h2' i hi hDi;rw[this] at hEi;cases hEi
  exact⟨this L hL.1 hD hE w hw hDw,this L hL.1 hD hE b hb hDb⟩
 have hone:(L.filter fun E=>!(E w)).length+1=L.length:=by
  have h1:=Pi L fun E=>E w
  have h2:=one_has hL hw
  have h3:(L.filter fun E=>E w).length≠0:=fun e=>by
   have:=List.length_eq_zero_iff.1 e
   have hm:D∈L.filter (fun E=>E w):=List.mem_filter.2 ⟨hD,hDw⟩
   rw[this] at hm;cases hm
  omega
 have hrest:=MG hL fun E=>!(E w)
 have hnew:Pk N (M9 H w b) W S ((fun j=>j == w)::del D w::L.filter fun E=>!(E w)):=by
  have hdd:∀ j,del D w j=true→D j=true∧j≠w:=fun j h=>by unfold del at h;simpa using h
  refine⟨List.pairwise_cons.2 ⟨fun E hE j hj ⟨q1,q2⟩=>?_,List.pairwise_cons.2 ⟨fun E hE j hj ⟨q1,q2⟩=>?_,hrest.1⟩⟩,fun E hE=>?_⟩
  ·have e:j=w:=by simpa using q1
   subst e
   rcases List.mem_cons.1 hE with rfl | hE
   ·exact(hdd _ q2).2 rfl
   ·have:=(List.mem_filter.1 hE).2
    rw[q2] at this;cases this
  ·obtain⟨hE1,hE2⟩:=List.mem_filter.1 hE
   have hED:E≠D:=fun e=>by subst e;rw[hDw] at hE2;cases hE2
   have:∀ (L:List Bn),L.Pairwise (fun A B=>∀ i,i < N→¬ (A i=true∧B i=true))→D∈L→E∈L→False:=by
    intro L
    induction L with
    | nil=>intro _ h;cases h
    | cons F L ih =>
     intro hp h1 h2
     obtain⟨p1,p2⟩:=List.pairwise_cons.1 hp
     rcases List.mem_cons.1 h1 with rfl | h1' <;> rcases List.mem_cons.1 h2 with rfl | h2'
     ·exact hED rfl
     ·exact p1 E h2' j hj ⟨(hdd _ q1).1,q2⟩
     ·exact p1 D h1' j hj ⟨q2,(hdd _ q1).1⟩
     ·exact ih p2 h1' h2'
   exact this L hL.1 hD hE1
  ·rcases List.mem_cons.1 hE with rfl | hE
   ·exact⟨fun j _ q=>by have e:j=w:=(by simpa using q);subst e;exact hs,Ph hr,w,hw,by simp⟩
   ·rcases List.mem_cons.1 hE with rfl | hE
    ·exact⟨fun j hj q=>sD j hj (hdd j q).1,vD2,b,hb,by unfold del;rw[hDb];simp;exact hbw⟩
    ·obtain⟨hE1,hE2⟩:=List.mem_filter.1 hE
     obtain⟨q1,q2,q3⟩:=hL.2 E hE1
     have hED:E≠D:=fun e=>by subst e;rw[hDw] at hE2;cases hE2
     exact⟨q1,Qz hw hb (fun e=>hbw e.symm) (.inr (hother E hE1 hED)) q2,q3⟩
 have:=OW hnew
 simp only[List.length_cons] at this
 omega
theorem Pj:∀ (k:Nat) (S:Bn),card N S≤k→M N H W S≤card N S
 | 0,S,h=>by rw[Hw (by omega)];exact Nat.zero_le _
 | k + 1, S, h => by
  by_cases hc:card N S=0
  ·rw[Hw hc];exact Nat.zero_le _
  rw[PQ S hc]
  have h1:=SA (Bp N H W S)
  have h2:mx ((els N S).map fun i=>M N H W (del S i))≤card N S - 1:=by
   apply ZI
   intro a ha
   obtain⟨i,hi,rfl⟩:=List.mem_map.1 ha
   obtain⟨hi,hs⟩:=Fb.1 hi
   have hcd:=FN hi hs
   have:=Pj k (del S i) (by omega)
   omega
  omega
theorem zM (S:Bn):M N H W S≤card N S:=Pj (card N S) S (Nat.le_refl _)
theorem UG : ∀ (k : Nat) (S : Bn), card N S ≤ k → card N S - M N H W S = card N (fun i => S i && !decide (H i = W i)) - M N H W (fun i => S i && !decide (H i = W i))
 | 0, S, h => by
  have hz:=Gs (N:=N) (S:=S) (by omega)
  have e:∀ i,i < N→(fun i=>S i && !decide (H i=W i)) i=S i:=fun i hi=>by show (S i && !decide (H i=W i))=S i;rw[hz i hi];rfl
  rw[Gq e,K6 e]
 | k + 1, S, h => by
  by_cases hr:∃ i,i < N∧S i=true∧H i=W i
  ·obtain⟨i,hi,hs,hr⟩:=hr
   have h1:=Yj (S:=S) hi hr hs
   have h2:=FN hi hs
   have ih:=UG k (del S i) (by omega)
   have e:∀ j,j < N→(fun j=>del S i j && !decide (H j=W j)) j=(fun j=>S j && !decide (H j=W j)) j:=fun j hj=>by
    show ((S j && !(j == i)) && !decide (H j=W j))=(S j && !decide (H j=W j))
    by_cases c:j=i
    ·rw[c,decide_eq_true hr];cases S i <;> simp
    ·have:(j == i)=false:=by simpa using c
     rw[this];cases S j <;> simp
   rw[Gq e,K6 e] at ih
   omega
  ·have e : ∀ i, i < N → (fun i => S i && !decide (H i = W i)) i = S i := fun i hi => by
    show (S i && !decide (H i=W i))=S i
    cases hs:S i with
    | false=>rfl
    | true=>rw[decide_eq_false (fun c=>hr ⟨i,hi,hs,c⟩)];rfl
   rw[Gq e,K6 e]
end Go.MdM
namespace Go.Bfs
section
variable {α:Type} [DecidableEq α]
def news:List α→List α→List α
 | L,[]=>L
 | L,x::xs=>news (if x∈L then L else L++[x]) xs
theorem news_ext:∀ (xs L:List α),∃ E,news L xs=L++E∧(∀ z∈E,z∈xs∧z ∉ L)∧E.Nodup
 | [],L=>⟨[],by simp[news],by simp,List.nodup_nil⟩
 | x :: xs, L => by
  by_cases h:x∈L
  ·obtain⟨E,e,h1,h2⟩:=news_ext xs L
   refine⟨E,?_,fun z hz=>⟨List.mem_cons_of_mem _ (h1 z hz).1,(h1 z hz).2⟩,h2⟩
   show news (if x∈L then L else L++[x]) xs=_
   rw[if_pos h,e]
  ·obtain⟨E,e,h1,h2⟩:=news_ext xs (L++[x])
   refine⟨x::E,?_,fun z hz=>?_,List.nodup_cons.2 ⟨fun hx=>(h1 x hx).2 (by simp),h2⟩⟩
   ·show news (if x∈L then L else L++[x]) xs=_
    rw[if_neg h,e];simp
   ·rcases List.mem_cons.1 hz with rfl | hz
    ·exact⟨by simp,h⟩
    ·exact⟨List.mem_cons_of_mem _ (h1 z hz).1,fun hL=>(h1 z hz).2 (by simp[hL])⟩
theorem news_has:∀ (xs L:List α),(∀ z∈xs,z∈news L xs)∧∀ z∈L,z∈news L xs
 | [],L=>⟨fun z h=>(by cases h),fun z h=>h⟩
 | x :: xs, L => by
  obtain⟨h1,h2⟩:=news_has xs (if x∈L then L else L++[x])
  have hL:∀ z∈L,z∈(if x∈L then L else L++[x]):=fun z hz=>by
   split
   ·exact hz
   ·simp[hz]
  refine⟨fun z hz=>?_,fun z hz=>h2 z (hL z hz)⟩
  rcases List.mem_cons.1 hz with rfl | hz
  ·apply h2
   split
   ·assumption
   ·simp
  ·exact h1 z hz
variable (nb:α→List α) (U:α→Prop) (F:α→Nat) (w:α)
structure World:Prop where
 hw:U w
 h0:F w=0
 hU:∀ x,U x→∀ y∈nb x,U y
 up:∀ x,U x→∀ y∈nb x,F y≤F x+1
 sym:∀ x,U x→∀ y∈nb x,x∈nb y
 dn:∀ x,U x→x≠w→∃ y∈nb x,F y+1=F x
structure Inv (L:List α) (i:Nat):Prop where
 le:i≤L.length
 mem:∀ x∈L,U x
 nd:L.Nodup
 has:w∈L
 done:∀ j (h:j < L.length),j < i→∀ y∈nb L[j],y∈L
 srt:∀ j k (hj:j < L.length) (hk:k < L.length),j≤k→F L[j]≤F L[k]
 top:∀ (h:i < L.length),∀ x∈L,F x≤F L[i]+1
variable {nb U F w}
theorem inv_start (W:World nb U F w):Inv nb U F w [w] 0:=
 ⟨by simp,fun x hx=>by rw[List.mem_singleton.1 hx];exact W.hw,by simp,by simp,fun j _ h=>by omega,fun j k hj hk _=>by
   have e1:j=0:=by simp at hj;omega
   have e2:k=0:=by simp at hk;omega
   subst e1;subst e2;exact Nat.le_refl _,fun _ x hx=>by rw[List.mem_singleton.1 hx,W.h0];omega⟩
theorem low (W:World nb U F w) {L:List α} {i:Nat} (I:Inv nb U F w L i) (h:i < L.length):∀ (n:Nat) (x:α),F x=n→U x→F x≤F L[i]→x∈L:=by
 intro n
 induction n with
 | zero =>
  intro x hx hU _
  by_cases e:x=w
  ·rw[e];exact I.has
  ·obtain⟨y,_,hy⟩:=W.dn x hU e;omega
 | succ n ih =>
  intro x hx hU hle
  by_cases e:x=w
  ·rw[e];exact I.has
  obtain⟨y,hy,hF⟩:=W.dn x hU e
  have hyL:=ih y (by omega) (W.hU x hU y hy) (by omega)
  obtain⟨j,hj,rfl⟩:=List.getElem_of_mem hyL
  have hji:j < i:=by
   apply Classical.byContradiction
   intro c
   have:=I.srt i j h hj (by omega)
   omega
  exact I.done j hj hji x (W.sym x hU _ hy)
theorem new_val (W:World nb U F w) {L:List α} {i:Nat} (I:Inv nb U F w L i) (h:i < L.length) {z:α} (hz:z∈nb L[i]) (hn:z ∉ L):F z=F L[i]+1:=by
 have hx:=I.mem _ (List.getElem_mem h)
 have h1:=W.up _ hx z hz
 by_cases c:F z≤F L[i]
 ·exact absurd (low W I h (F z) z rfl (W.hU _ hx z hz) c) hn
 ·omega
theorem inv_step (W:World nb U F w) {L:List α} {i:Nat} (I:Inv nb U F w L i) (h:i < L.length):Inv nb U F w (news L (nb L[i])) (i+1):=by
 obtain⟨E,e,h1,h2⟩:=news_ext (nb L[i]) L
 obtain⟨k1,k2⟩:=news_has (nb L[i]) L
 have hx:=I.mem _ (List.getElem_mem h)
 have hE:∀ z∈E,F z=F L[i]+1:=fun z hz=>new_val W I h (h1 z hz).1 (h1 z hz).2
 rw[e] at k1 k2 ⊢
 have hget:∀ j (hj:j < (L++E).length),(∃ h:j < L.length,(L++E)[j]=L[j])∨(L.length≤j∧(L++E)[j]∈E):=fun j hj=>by
  by_cases c:j < L.length
  ·exact .inl ⟨c,List.getElem_append_left c⟩
  ·right
   refine⟨by omega,?_⟩
   rw[List.getElem_append_right (by omega)]
   exact List.getElem_mem _
 have htop:∀ x∈L++E,F x≤F L[i]+1:=fun x hx=>by
  rcases List.mem_append.1 hx with hx | hx
  ·exact I.top h x hx
  ·rw[hE x hx];exact Nat.le_refl _
 refine⟨by simp;omega,fun x hxm=>?_,?_,by simp[I.has],fun j hj hji y hy=>?_,fun j k hj hk hjk=>?_,fun hi x hxm=>?_⟩
 ·rcases List.mem_append.1 hxm with hxm | hxm
  ·exact I.mem x hxm
  ·exact W.hU _ hx x (h1 x hxm).1
 ·rw[List.nodup_append]
  exact⟨I.nd,h2,fun a ha b hb hab=>(h1 b hb).2 (hab ▸ ha)⟩
 ·have hjL:j < L.length:=by omega
  rw[List.getElem_append_left hjL] at hy
  by_cases c:j=i
  ·subst c;exact k1 y hy
  ·exact k2 y (I.done j hjL (by omega) y hy)
 ·rcases hget j hj with⟨a,ea⟩ | ⟨a,ma⟩
  ·rcases hget k hk with⟨b,eb⟩ | ⟨b,mb⟩
   ·rw[ea,eb];exact I.srt j k a b hjk
   ·rw[ea,hE _ mb];exact I.top h _ (List.getElem_mem a)
  ·rcases hget k hk with⟨b,eb⟩ | ⟨b,mb⟩
   ·omega
   ·rw[hE _ ma,hE _ mb];exact Nat.le_refl _
 ·have:=htop x hxm
  rcases hget (i+1) hi with⟨a,ea⟩ | ⟨a,ma⟩
  ·rw[ea]
   have:=I.srt i (i+1) h a (by omega)
   omega
  ·rw[hE _ ma];omega
end
end Go.Bfs
namespace Go.MdM
def al:Bn:=fun _=>true
def fl (l:List Int):Nat→Int:=fun i=>l.getD i 0
def sw (l:List Int) (a b:Nat):List Int:=(l.set a (l.getD b 0)).set b (l.getD a 0)
theorem Gv (l:List Int) (a b:Nat):(sw l a b).length=l.length:=by simp[sw]
theorem Pm (r:List Int) (i j:Nat) (v:Int) (hi:i < r.length):(r.set i v).getD j 0=if j=i then v else r.getD j 0:=by
 simp only[List.getD_eq_getElem?_getD,List.getElem?_set]
 by_cases h:i=j
 ·subst h;simp[hi]
 ·have h':¬ j=i:=fun e=>h e.symm
  simp[h,h']
theorem OX {l:List Int} {a b:Nat} (ha:a < l.length) (hb:b < l.length) (hab:a≠b):fl (sw l a b)=M9 (fl l) a b:=by
 funext i
 unfold fl sw M9
 rw[Pm _ _ _ _ (by simpa using hb),Pm _ _ _ _ ha]
 by_cases h1:i=a
 ·subst h1
  rw[if_neg hab,if_pos rfl,if_pos rfl]
 ·rw[if_neg h1,if_neg h1]
theorem SG {x y:List Int} (h:x.length=y.length) (e:∀ i,i < x.length→fl x i=fl y i):x=y:=by
 apply List.ext_getElem h
 intro j h1 h2
 have:=e j h1
 simp only[fl,List.getD_eq_getElem?_getD,List.getElem?_eq_getElem h1,List.getElem?_eq_getElem h2,Option.getD_some] at this
 exact this
theorem wR {l:List Int} {a b:Nat} (ha:a < l.length) (hb:b < l.length) (hab:a≠b):sw (sw l a b) a b=l:=by
 apply SG (by rw[Gv,Gv])
 intro i _
 rw[OX (by rw[Gv];exact ha) (by rw[Gv];exact hb) hab,OX ha hb hab,UF]
theorem Yk {l:List Int} {a b:Nat} (ha:a < l.length) (hb:b < l.length) (hab:a≠b):sw l a b=sw l b a:=by
 apply SG (by rw[Gv,Gv])
 intro i _
 rw[OX ha hb hab,OX hb ha (fun e=>hab e.symm)]
 unfold M9
 by_cases h1:i=a
 ·subst h1
  rw[if_pos rfl,if_neg hab,if_pos rfl]
 ·rw[if_neg h1]
  by_cases h2:i=b
  ·rw[if_pos h2,if_pos h2]
  ·rw[if_neg h2,if_neg h2,if_neg h1]
theorem QA (N:Nat):card N al=N:=by unfold card al;simp
theorem LX (x:List Int) (v:Int):cn x.length al (fl x) v=x.count v:=by
 have e:x=(List.range x.length).map (fl x):=by
  apply List.ext_getElem (by simp)
  intro i h1 h2
  simp[fl,List.getD_eq_getElem?_getD,h1]
 unfold cn
 conv=>rhs;rw[e]
 rw[List.count,List.countP_map]
 apply List.countP_congr
 intro i _
 simp[al]
def xO (n:Nat):List (Nat×Nat):=(List.range n).flatMap fun a=>((List.range n).drop (a+1)).map fun b=>(a,b)
theorem Ov {n:Nat} {p:Nat×Nat}:p∈xO n↔p.1 < p.2∧p.2 < n:=by
 unfold xO
 rw[List.mem_flatMap]
 constructor
 ·rintro⟨a,ha,h⟩
  obtain⟨b,hb,rfl⟩:=List.mem_map.1 h
  obtain⟨k,hk,e⟩:=List.getElem_of_mem hb
  simp at e hk
  show a < b∧b < n
  omega
 ·rintro⟨h1,h2⟩
  refine⟨p.1,List.mem_range.2 (by omega),List.mem_map.2 ⟨p.2,?_,rfl⟩⟩
  rw[List.mem_iff_getElem]
  refine⟨p.2 - (p.1+1),by simp;omega,?_⟩
  simp;omega
def xP (l:List Int):List (List Int):=(xO l.length).map fun p=>sw l p.1 p.2
noncomputable def O1 (w x:List Int):Nat:=w.length - M w.length (fl x) (fl w) al
def Nf (w x:List Int):Prop:=x.length=w.length∧∀ v,x.count v=w.count v
theorem lH {w x:List Int} (h:Nf w x):Bp w.length (fl x) (fl w) al:=fun v=>by
 rw[LX w v]
 have:=LX x v
 rw[h.1] at this
 rw[this,h.2 v]
theorem QB {w x:List Int} (h:Nf w x) {a b:Nat} (ha:a < x.length) (hb:b < x.length) (hab:a≠b):Nf w (sw x a b):=by
 refine⟨by rw[Gv];exact h.1,fun v=>?_⟩
 rw[←LX (sw x a b) v,Gv,OX ha hb hab,WQ ha hb hab rfl rfl,LX,h.2 v]
theorem lI {w x:List Int} (h:Nf w x) {a b:Nat} (ha:a < x.length) (hb:b < x.length) (hab:a≠b):O1 w (sw x a b)≤O1 w x+1∧O1 w x≤O1 w (sw x a b)+1:=by
 unfold O1
 rw[h.1] at ha hb
 rw[OX (by rw[h.1];exact ha) (by rw[h.1];exact hb) hab]
 have h1:=ZN (H:=fl x) (W:=fl w) ha hb hab al rfl rfl
 have h2:=R3 (H:=fl x) (W:=fl w) ha hb hab al rfl rfl
 omega
theorem WR (w:List Int):O1 w w=0:=by
 unfold O1
 have h:=UG (N:=w.length) (H:=fl w) (W:=fl w) w.length al (by rw[QA];exact Nat.le_refl _)
 rw[QA] at h
 have e:card w.length (fun i=>al i && !decide (fl w i=fl w i))=0:=by unfold card;rw[List.countP_eq_zero];intro i _;simp
 omega
theorem WS {w x:List Int} (h:Nf w x) (hne:x≠w):∃ a b,a < b∧b < x.length∧O1 w (sw x a b)+1=O1 w x:=by
 have:∃ i,i < x.length∧fl x i≠fl w i:=Classical.byContradiction fun k=>hne (SG h.1 fun i hi=>Classical.byContradiction fun k2=>k ⟨i,hi,k2⟩)
 obtain⟨i,hi,hne⟩:=this
 rw[h.1] at hi
 obtain⟨b,hb,hbi,_,hM⟩:=kZ (lH h) hi (show al i=true from rfl) hne
 have hle:=zM (N:=w.length) (H:=M9 (fl x) i b) (W:=fl w) al
 rw[QA] at hle
 have hib:i≠b:=fun e=>hbi e.symm
 have e1:O1 w (sw x i b)+1=O1 w x:=by
  unfold O1
  rw[OX (by rw[h.1];exact hi) (by rw[h.1];exact hb) hib]
  omega
 rcases Nat.lt_or_gt_of_ne hib with c | c
 ·exact⟨i,b,c,by rw[h.1];exact hb,e1⟩
 ·exact⟨b,i,c,by rw[h.1];exact hi,by rw[←Yk (by rw[h.1];exact hi) (by rw[h.1];exact hb) hib];exact e1⟩
theorem lJ (w:List Int):Bfs.World xP (Nf w) (O1 w) w where
 hw:=⟨rfl,fun _=>rfl⟩
 h0:=WR w
 hU:=fun x hx y hy=>by
  obtain⟨p,hp,rfl⟩:=List.mem_map.1 hy
  obtain⟨h1,h2⟩:=Ov.1 hp
  exact QB hx (by omega) h2 (by omega)
 up:=fun x hx y hy=>by
  obtain⟨p,hp,rfl⟩:=List.mem_map.1 hy
  obtain⟨h1,h2⟩:=Ov.1 hp
  exact(lI hx (by omega) h2 (by omega)).1
 sym:=fun x hx y hy=>by
  obtain⟨p,hp,rfl⟩:=List.mem_map.1 hy
  obtain⟨h1,h2⟩:=Ov.1 hp
  refine List.mem_map.2 ⟨p,by rw[Gv];exact hp,?_⟩
  exact wR (by omega) h2 (by omega)
 dn:=fun x hx hne=>by
  obtain⟨a,b,h1,h2,h3⟩:=WS hx hne
  exact⟨sw x a b,List.mem_map.2 ⟨(a,b),Ov.2 ⟨h1,h2⟩,rfl⟩,h3⟩
end Go.MdM
namespace Go.MdM
def lZ (v:Int):List Int→Nat→Nat→Nat
 | [],_,i=>i
 | x::h,c,i=>if x=v then (match c with | 0=>i | c+1=>lZ v h c (i+1)) else lZ v h c (i+1)
def sr (h:List Int):List Int→List Int→List Nat
 | [],_=>[]
 | v::w,pre=>lZ v h (pre.count v) 0::sr h w (pre++[v])
end Go.MdM
namespace Go.MdM
theorem ZO:∀ (l m:List Nat),l.Nodup→(∀ y∈l,y∈m)→l.length≤m.length
 | [],_,_,_=>Nat.zero_le _
 | a :: l, m, hn, h => by
  obtain⟨h1,h2⟩:=List.nodup_cons.1 hn
  have ha:=h a (by simp)
  have:=ZO l (m.erase a) h2 fun y hy=>(List.mem_erase_of_ne (fun e=>h1 (by rw[←e];exact hy))).2 (h y (by simp[hy]))
  rw[List.length_erase_of_mem ha] at this
  have:=List.length_pos_of_mem ha
  rw[List.length_cons];omega
section
variable {w x:List Int} (h:Nf w x)
include h
end
end Go.MdM
set_option maxRecDepth 100000
namespace Go.MdM
open Go Go.Sp Go.RgP
def Dn:List Int→Nat→Nat
 | [],a=>a
 | x::l,a=>Dn l (8*a+x.toNat)
def R4 (l:List Int):Prop:=∀ x∈l,0≤x∧x < 8
theorem QC:∀ (l m:List Int) (a b:Nat),l.length=m.length→R4 l→R4 m→Dn l a=Dn m b→l=m∧a=b
 | [],[],_,_,_,_,_,h=>⟨rfl,h⟩
 | [],y::m,_,_,h,_,_,_=>by simp at h
 | x::l,[],_,_,h,_,_,_=>by simp at h
 | x :: l, y :: m, a, b, h, h1, h2, e => by
  obtain⟨rfl,e2⟩:=QC l m _ _ (by simpa using h) (fun z hz=>h1 z (by simp[hz])) (fun z hz=>h2 z (by simp[hz])) e
  have hx:=h1 x (by simp)
  have hy:=h2 y (by simp)
  have:x.toNat=y.toNat∧a=b:=by omega
  have hxy:x=y:=by omega
  exact⟨by rw[hxy],this.2⟩
theorem ZP:∀ (l:List Int) (a k:Nat),R4 l→a < k→Dn l a < k*8 ^ l.length
 | [],a,k,_,h=>by simpa [Dn] using h
 | x :: l, a, k, h1, h => by
  have hx:=h1 x (by simp)
  have:=ZP l (8*a+x.toNat) (8*k) (fun z hz=>h1 z (by simp[hz])) (by omega)
  show Dn l (8*a+x.toNat) < k*8 ^ (l.length+1)
  rw[Nat.pow_succ]
  have e:k*(8 ^ l.length*8)=8*k*8 ^ l.length:=by rw[Nat.mul_comm (8 ^ l.length) 8,←Nat.mul_assoc,Nat.mul_comm k 8]
  omega
def KZ (F:List Int→Nat) (L:List (List Int)):List (Nat×Nat):=L.map fun x=>(Dn x 0,F x)
theorem WT (F:List Int→Nat) (L:List (List Int)) (x:List Int):KZ F (L++[x])=KZ F L++[(Dn x 0,F x)]:=by unfold KZ;simp
theorem Ow (F:List Int→Nat) (L:List (List Int)):(KZ F L).length=L.length:=by unfold KZ;simp
theorem OY {F:List Int→Nat} {n:Nat} {x:List Int} (hx:x.length=n) (h8:R4 x):∀ (L:List (List Int)),(∀ y∈L,y.length=n∧R4 y)→x∈L→∃ j,place (Dn x 0) (KZ F L)=some (j,F x)
 | [],_,h=>by cases h
 | y :: L, hL, h => by
  show ∃ j,(bif Nat.beq (Dn x 0) (Dn y 0) then some (0,F y) else (place (Dn x 0) (KZ F L)).map fun p=>(p.1+1,p.2))=some (j,F x)
  cases hb:Nat.beq (Dn x 0) (Dn y 0) with
  | true =>
   obtain⟨rfl,_⟩:=QC x y 0 0 (by rw[hx,(hL y (by simp)).1]) h8 (hL y (by simp)).2 (Nat.eq_of_beq_eq_true hb)
   exact⟨0,rfl⟩
  | false =>
   rcases List.mem_cons.1 h with rfl | h
   ·rw[Nat.beq_refl] at hb;cases hb
   ·obtain⟨j,e⟩:=OY hx h8 L (fun z hz=>hL z (by simp[hz])) h
    rw[e];exact⟨j+1,rfl⟩
theorem Pn {F:List Int→Nat} {n:Nat} {x:List Int} (hx:x.length=n) (h8:R4 x):∀ (L:List (List Int)),(∀ y∈L,y.length=n∧R4 y)→x ∉ L→place (Dn x 0) (KZ F L)=none
 | [],_,_=>rfl
 | y :: L, hL, h => by
  show (bif Nat.beq (Dn x 0) (Dn y 0) then some (0,F y) else (place (Dn x 0) (KZ F L)).map fun p=>(p.1+1,p.2))=none
  cases hb:Nat.beq (Dn x 0) (Dn y 0) with
  | true =>
   obtain⟨rfl,_⟩:=QC x y 0 0 (by rw[hx,(hL y (by simp)).1]) h8 (hL y (by simp)).2 (Nat.eq_of_beq_eq_true hb)
   exact absurd (by simp) h
  | false =>
   rw[Pn hx h8 L (fun z hz=>hL z (by simp[hz])) (fun k=>h (by simp[k]))];rfl
theorem OZ (d c:Nat):∀ (ps:List (Nat×Nat)) (i:Nat),Gp (ps++[(d,c)]) i=Gp ps i++[⟨IV (Int.ofNat d),IV (Int.ofNat c),i+ps.length⟩]
 | [],i=>rfl
 | (k, b) :: r, i => by
  show _::Gp (r++[(d,c)]) (i+1)=_
  rw[OZ d c r (i+1),show i+1+r.length=i+(r.length+1) by omega];rfl
theorem Yl (d c:Nat) (ps:List (Nat×Nat)):Gr (IV (Int.ofNat d)) (IV (Int.ofNat c)) ps.length (Fp ps) none=Fp (ps++[(d,c)])∧Ja ps.length (none:Option (Nat×Value))=(ps++[(d,c)]).length:=by
 constructor
 ·show Br (Fp ps) [⟨IV (Int.ofNat d),IV (Int.ofNat c),ps.length⟩]=_
  unfold Fp
  rw[BH,OZ,Nat.zero_add]
 ·show ps.length+1=_
  simp
end Go.MdM
set_option maxRecDepth 100000
set_option maxHeartbeats 4000000
namespace Go.MnWM
open Go Go.Sp Go.MnW Go.MdM Go.MdV Go.RgP
theorem q23 (k:Nat) (args:List Value):Eb (k+1) 23 args=sN (Eb k) L args:=by kernel_rfl
theorem lK:∀ (l:List Int) (a:Nat),R4 l→Dn l a < (a+1)*8 ^ l.length:=fun l a h=>ZP l a (a+1) h (by omega)
theorem wS (a b:Nat) (h:8*a+b < 1000000000):Aj .i64 (Int.add (Aj .i64 (Int.mul 8 (Int.ofNat a))) (Int.ofNat b))=Int.ofNat (8*a+b):=by
 have e1:Int.mul 8 (Int.ofNat a)=((8*a:Nat):Int):=by show (8:Int)*(a:Int)=_;omega
 rw[e1,show Aj .i64 ((8*a:Nat):Int)=((8*a:Nat):Int) from Oe _ (by omega) (by omega)]
 have e2:Int.add ((8*a:Nat):Int) (Int.ofNat b)=((8*a+b:Nat):Int):=by show ((8*a:Nat):Int)+(b:Int)=_;omega
 rw[e2];exact Oe _ (by omega) (by omega)
theorem l23 (pu:Af) (M fl:Nat) (l:List Int) (h8:R4 l) (hl:l.length≤6):∀ (d w i a:Nat),i+d=l.length→d < w→a < 8 ^ i →
 O3 pu M w (Int.ofNat a) (sl fl l) (Int.ofNat l.length) (Int.ofNat i)=some (I (Int.ofNat (Dn (l.drop i) a)))
 | _,0,_,_,_,h,_=>by omega
 | 0, w + 1, i, a, hd, _, _ => by
  show OC pu M (O3 pu M w) _ _ _ _=_
  unfold OC
  rw[G9 (by omega),AA,List.drop_eq_nil_of_le (by omega)];rfl
 | d + 1, w + 1, i, a, hd, hw, ha => by
  have hlt:i < l.length:=by omega
  have e:l.drop i=l[i]::l.drop (i+1):=List.drop_eq_getElem_cons hlt
  have hx:=h8 l[i] (List.getElem_mem hlt)
  have hp:(8:Nat) ^ (i+1)≤8 ^ 6:=Nat.pow_le_pow_right (by decide) (by omega)
  have hps:(8:Nat) ^ (i+1)=8*8 ^ i:=by rw[Nat.pow_succ,Nat.mul_comm]
  have h6:(8:Nat) ^ 6=262144:=rfl
  have ex:l[i]=Int.ofNat l[i].toNat:=(Int.toNat_of_nonneg hx.1).symm
  have ih:=l23 pu M fl l h8 hl d w (i+1) (8*a+l[i].toNat) (by omega) (by omega) (by omega)
  rw[e]
  show OC pu M (O3 pu M w) _ _ _ _=some (I (Int.ofNat (Dn (l.drop (i+1)) (8*a+l[i].toNat))))
  rw[←ih]
  unfold OC
  rw[Gy hlt]
  simp only[Ak,Cx,Ac,I4,GX,blt_eq,hlt,decide_true,CF,Bool.true_and,BZ,Nat.mul_one,Aja l i hlt,BP,DC i (by omega:i < 1000000)]
  have hw2:Aj .i64 (Int.add (Aj .i64 (Int.mul 8 (Int.ofNat a))) l[i])=Int.ofNat (8*a+l[i].toNat):=by
   conv=>lhs;rw[ex]
   exact wS a l[i].toNat (by omega)
  rw[hw2]
theorem zN (n fl:Nat) (l:List Int) (h8:R4 l) (hl:l.length≤6):Eb (n+1) 23 [S fl l]=some (I (Int.ofNat (Dn l 0))):=by
 rw[q23]
 have h:=l23 (Eb n) L fl l h8 hl l.length L 0 0 (by omega) (by show _ < 1000000;omega) (by decide)
 rw[List.drop_zero] at h
 exact h
theorem q24 (k:Nat) (args:List Value):Eb (k+1) 24 args=lX (Eb k) L args:=by kernel_rfl
theorem zO (pu:Af) (fl:Nat) (l:List Int) (a b:Int):lX pu L [S fl l,I a,I b]=XP pu L (sl fl l) a b:=by kernel_rfl
theorem p24 (n fl:Nat) (l:List Int) {a b:Nat} (hl:l.length≤6) (ha:a < l.length) (hb:b < l.length):Eb (n+1) 24 [S fl l,I (Int.ofNat a),I (Int.ofNat b)]=some (S 0 (sw l a b)):=by
 rw[q24,zO]
 unfold XP
 have hn:Nat.beq (sl fl l).n 0=false:=zL (show l.length≠0 by omega)
 have rm:EQ (0+l.length) 8=true:=by rw[Nat.zero_add];exact iZ (by omega)
 have ht:Aq (l.length*1) (l.map I)=l.map I:=by rw[Cg,Nat.mul_one];exact List.take_of_length_le (by simp)
 have ga:AL (l.map I) (0+a*1)=some (I (l.getD a 0)):=by rw[BZ,Nat.zero_add,Nat.mul_one,Aja l a ha];simp[ha]
 have gb:AL (l.map I) (0+b*1)=some (I (l.getD b 0)):=by rw[BZ,Nat.zero_add,Nat.mul_one,Aja l b hb];simp[hb]
 have s1:BM ([I (l.getD b 0)]:List Value) (0+a*1) (l.map I)=(l.set a (l.getD b 0)).map I:=by rw[Nat.zero_add,Nat.mul_one,Ha _ _ _ (by simpa using ha),List.map_set]
 have s2:BM ([I (l.getD a 0)]:List Value) (0+b*1) ((l.set a (l.getD b 0)).map I)=(sw l a b).map I:=by rw[Nat.zero_add,Nat.mul_one,Ha _ _ _ (by simpa using hb),←List.map_set];rfl
 have c1:an (Nat.ble (0+a*1+1) (len (l.map I))) true=true:=by rw[CF,Bool.and_true,AV,List.length_map];exact Nat.ble_eq_true_of_le (by omega)
 have c2:an (Nat.ble (0+b*1+1) (len ((l.set a (l.getD b 0)).map I))) true=true:=by rw[CF,Bool.and_true,AV,List.length_map,List.length_set];exact Nat.ble_eq_true_of_le (by omega)
 have c3:an (Nat.ble (0+(0+l.length)*1) (len ((sw l a b).map I))) (Au Ah ((sw l a b).map I))=true:=by
  rw[zJ,AV,List.length_map,Gv,Nat.ble_eq_true_of_le (by omega)];rfl
 have c4:Aq ((0+l.length)*1) (Am 0 ((sw l a b).map I))=(sw l a b).map I:=by rw[Cg,Bz,List.drop_zero];exact List.take_of_length_le (by rw[List.length_map,Gv];omega)
 have c5:Au Ah (Aq ((0+l.length)*1) (Am 0 ((sw l a b).map I)))=true:=by rw[c4,zJ]
 rw[hn,AA]
 simp only[I4,GX,rm,Ak,ht,zJ,Cx,Ac,zK (show a < 0+l.length by omega),zK (show b < 0+l.length by omega),ga,gb,BP,c1,s1,c2,s2,c4]
 have c6:an (Nat.ble (0+(0+l.length)*1) (len ((sw l a b).map I))) true=true:=by rw[CF,Bool.and_true,AV,List.length_map,Gv];exact Nat.ble_eq_true_of_le (by omega)
 rw[c6,Ak]
 unfold S sl
 rw[Gv,Nat.zero_add]
theorem UH {M:List (List Int)} {x:List Int} (h:x∈M):Bfs.news M [x]=M:=by unfold Bfs.news;rw[if_pos h];rfl
theorem R5 {M:List (List Int)} {x:List Int} (h:x ∉ M):Bfs.news M [x]=M++[x]:=by unfold Bfs.news;rw[if_neg h];rfl
theorem lL:Bi .i64 (Wd (none:Option (Nat×Value)) (.int .i64 (0:Int)))=some 0:=rfl
theorem WU (j:Nat) (v:Int):Bi .i64 (Wd (some (j,IV v)) (.int .i64 (0:Int)))=some v:=rfl
theorem lM:nt (isS (none:Option (Nat×Value)))=true:=rfl
theorem lN (p:Nat×Value):nt (isS (some p))=false:=rfl
def QS (M:List (List Int)) (i off n c:Nat) (q:List Value):Prop:=n+i=M.length∧c / 2=n∧c % 2=0∧off+n=len q∧Am off q=(M.drop i).map (S 0)∧Au Ah q=true
theorem zP (l:List (List Int)):Au Ah (l.map (S 0))=true:=by
 rw[Bh,List.all_eq_true]
 intro v hv
 obtain⟨z,_,rfl⟩:=List.mem_map.1 hv
 rfl
theorem Ym {M:List (List Int)} {i off n c:Nat} {q:List Value} (h:QS M i off n c q) (hM:M.length≤300000):Ou 1 24 off n c 1 q=true:=by
 obtain⟨h1,h2,h3,h4,_,_⟩:=h
 unfold Ou
 have k1:EQ (n+1) 24=true:=by
  unfold EQ
  exact Nat.ble_eq_true_of_le (by show (4*(n+1)+4096)*24≤281474976710656;omega)
 have k2:nt (Nat.ble (n+1) (c / 2))=true:=by
  rw[h2]
  cases h:Nat.ble (n+1) n with
  | false=>rfl
  | true=>have:=Nat.le_of_ble_eq_true h;omega
 have k3:Nat.ble (off+n*1) (len q)=true:=Nat.ble_eq_true_of_le (by omega)
 have k4:Nat.beq (off+n*1) (len q)=true:=by rw[Nat.mul_one,h4];exact Nat.beq_refl _
 rw[k1,k2,k3,k4,h3];rfl
theorem UI {M:List (List Int)} {i off n c:Nat} {q:List Value} (h:QS M i off n c q) (x:List Int):QS (M++[x]) i 0 (n+1) (2*(n+1)+bb false 1 0) (Br (Am off q) [S 0 x]):=by
 obtain⟨h1,h2,h3,h4,h5,h6⟩:=h
 have e:Br (Am off q) [S 0 x]=((M++[x]).drop i).map (S 0):=by
  rw[h5,BH,List.drop_append_of_le_length (by omega)];simp
 refine⟨by rw[List.length_append,List.length_singleton];omega,by show (2*(n+1)+0) / 2=n+1;omega,by show (2*(n+1)+0) % 2=0;omega,?_,?_,?_⟩
 ·rw[e,AV,List.length_map,List.length_drop,List.length_append,List.length_singleton];omega
 ·rw[e,Bz,List.drop_zero]
 ·rw[e];exact zP _
theorem lQ {M:List (List Int)} {i off n c:Nat} {q:List Value} (h:QS M i off n c q) (hi:i < M.length):QS M (i+1) (off+1*1) (n - 1) (2*(c / 2 - 1)+bb (Dp false (Nat.beq (c % 2) 1)) 1 0) q:=by
 obtain⟨h1,h2,h3,h4,h5,h6⟩:=h
 have e:bb (Dp false (Nat.beq (c % 2) 1)) 1 0=0:=by rw[h3];rfl
 refine⟨by omega,by rw[e,h2];omega,by rw[e];omega,by omega,?_,h6⟩
 have:Am (off+1*1) q=(Am off q).drop 1:=by rw[Bz,Bz,List.drop_drop]
 rw[this,h5,←List.map_drop,List.drop_drop]
theorem Yn {M:List (List Int)} {i off n c:Nat} {q:List Value} (h:QS M i off n c q) (hi:i < M.length):AL q (off+0*1)=some (S 0 M[i]):=by
 obtain⟨h1,h2,h3,h4,h5,h6⟩:=h
 rw[BZ,Nat.zero_mul,Nat.add_zero]
 have:q[off]?=(q.drop off)[0]?:=by rw[List.getElem?_drop,Nat.add_zero]
 rw[this,←Bz,h5,List.getElem?_map,List.getElem?_drop,Nat.add_zero,List.getElem?_eq_getElem hi];rfl
section
variable {w:List Int} {F:List Int→Nat} (h8:R4 w) (hl:w.length≤6) (near:Bool) (n:Nat)
theorem HY {x : List Int} (h8 : R4 w) (h : Nf w x) : R4 x := fun z hz => h8 z (by
 have:=h.2 z
 rw[←List.count_pos_iff,←this,List.count_pos_iff];exact hz)
include h8 hl
theorem wT (ih0:Bool→Nat→Nat→Nat→List EO→Nat→List Value→Option Value) (ih1:Bool→Nat→Nat→Nat→Sl→Int→Int→List EO→Nat→List Value→Option Value) (ih2:Bool→Nat→Nat→Nat→Sl→Int→Int→Int→Int→List EO→Nat→List Value→Option Value)
 {M:List (List Int)} (hM:∀ x∈M,Nf w x) (hMl:M.length≤300000) {l:List Int} (hlM:l∈M) {a b:Nat} (ha:a < l.length) (hb:b < l.length) (hab:a≠b) (hF:sw l a b ∉ M→F (sw l a b)=F l+1) (hFl:F l≤1000) {i off nn c:Nat} {q:List Value} (hq:QS M i off nn c q) :
 ∃ off' nn' c' q', QS (Bfs.news M [sw l a b]) i off' nn' c' q' ∧ FX (Eb (n + 1)) L ih0 ih1 ih2 near off nn c (sl 0 l) (Int.ofNat a) (Int.ofNat b) (Int.ofNat l.length) (Int.ofNat a) true (Fp (KZ F M)) M.length q =
  Jj (Eb (n+1)) L ih0 ih1 ih2 near off' nn' c' (sl 0 l) (Int.ofNat a) (Int.ofNat b) (Int.ofNat l.length) (Int.ofNat a) (Fp (KZ F (Bfs.news M [sw l a b]))) (Bfs.news M [sw l a b]).length q':=by
 have ol:=hM l hlM
 have ox:=QB ol ha hb hab
 have ln:l.length≤6:=by rw[ol.1];exact hl
 have e24:Eb (n+1) 24 [Sl.v 1 (sl 0 l),.int .i64 (Int.ofNat a),.int .i64 (Int.ofNat b)]=some (Sl.v 1 (sl 0 (sw l a b))):=p24 n 0 l ln ha hb
 have e23x:Eb (n+1) 23 [Sl.v 1 (sl 0 (sw l a b))]=some (.int .i64 (Int.ofNat (Dn (sw l a b) 0))):=zN n 0 _ (HY h8 ox) (by rw[Gv];exact ln)
 have e23l:Eb (n+1) 23 [Sl.v 1 (sl 0 l)]=some (.int .i64 (Int.ofNat (Dn l 0))):=zN n 0 l (HY h8 ol) ln
 have hall:∀ y∈M,y.length=w.length∧R4 y:=fun y hy=>⟨(hM y hy).1,HY h8 (hM y hy)⟩
 have fx:=OT (Dn (sw l a b) 0) (KZ F M)
 have flk:=OT (Dn l 0) (KZ F M)
 obtain⟨j,pl⟩:=OY (F:=F) ol.1 (HY h8 ol) M hall hlM
 rw[pl] at flk
 have flk:GD (.int .i64 (Int.ofNat (Dn l 0))) (Fp (KZ F M)) 0=some (some (j,IV (Int.ofNat (F l)))):=flk
 have hc:=hq.2.2.2.2.2
 by_cases hx:sw l a b∈M
 ·obtain⟨j2,px⟩:=OY (F:=F) ox.1 (HY h8 ox) M hall hx
  rw[px] at fx
  have fx:GD (.int .i64 (Int.ofNat (Dn (sw l a b) 0))) (Fp (KZ F M)) 0=some (some (j2,IV (Int.ofNat (F (sw l a b))))):=fx
  have en:=UH hx
  refine⟨off,nn,c,q,by rw[en];exact hq,?_⟩
  rw[en]
  unfold FX
  rw[Ak,DT,Ak,hc,Ak,e24,Ac,Dc,Ac,e23x,Ac,BP,Ac,fx,Ac,WU,Ac,lN,AA]
 ·have px:=Pn (F:=F) ox.1 (HY h8 ox) M hall hx
  rw[px] at fx
  have fx:GD (.int .i64 (Int.ofNat (Dn (sw l a b) 0))) (Fp (KZ F M)) 0=some none:=fx
  have en:=R5 hx
  refine⟨0,nn+1,2*(nn+1)+bb false 1 0,Br (Am off q) [S 0 (sw l a b)],by rw[en];exact UI hq _,?_⟩
  rw[en]
  have hv:=hF hx
  obtain⟨u1,u2⟩:=Yl (Dn (sw l a b) 0) (F l+1) (KZ F M)
  rw[Ow] at u1 u2
  have hps:KZ F M++[(Dn (sw l a b) 0,F l+1)]=KZ F (M++[sw l a b]):=by rw[WT,hv]
  rw[hps] at u1 u2
  rw[Ow] at u2
  have hw1:Aj .i64 (Int.add (Int.ofNat (F l)) 1)=Int.ofNat (F l+1):=DC (F l) (by omega)
  have hcl:Au Ah (Br (Am off q) [Sl.v 1 (sl 0 (sw l a b))])=true:=(UI hq (sw l a b)).2.2.2.2.2
  unfold FX
  rw[Ak,DT,Ak,hc,Ak,e24,Ac,Dc,Ac,e23x,Ac,BP,Ac,fx,Ac,lL,Ac,lM,Ak,Ac,BP,Ac,e23l,Ac,BP,Ac,flk,Ac,WU,Ac,fx,Ac,hw1,u1,u2,DT,Ak,Ym hq hMl,Ak,hcl,Ak]
  rfl
end
end Go.MnWM
