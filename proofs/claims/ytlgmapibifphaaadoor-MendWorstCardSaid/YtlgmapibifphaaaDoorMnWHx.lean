/- The law's distances: the loops, and what comes out. -/
import Derived.Test.YtlgmapibifphaaaDoorMnWBx
import Derived.KernelRfl

set_option maxRecDepth 100000
set_option maxHeartbeats 4000000
namespace Go.MnWM
open Go Go.Sp Go.MnW Go.MdM Go.MdV Go.RgP
theorem R6 {α:Type} [DecidableEq α] (xs ys:List α):∀ (M:List α),Bfs.news M (xs++ys)=Bfs.news (Bfs.news M xs) ys:=by
 induction xs with
 | nil=>intro M;rfl
 | cons x xs ih =>
  intro M
  show Bfs.news (if x∈M then M else M++[x]) (xs++ys)=Bfs.news (Bfs.news (if x∈M then M else M++[x]) xs) ys
  exact ih _
theorem ZQ (x:Int):Bd x x=true:=by rw[Lr];simp
theorem R7 {α β:Type} {f g:α→List β}:∀ {l:List α},(∀ a∈l,f a=g a)→l.flatMap f=l.flatMap g
 | [],_=>rfl
 | a::l,h=>by rw[List.flatMap_cons,List.flatMap_cons,h a (by simp),R7 fun b hb=>h b (by simp[hb])]
theorem UZ (x:List Int) (ys M:List (List Int)):Bfs.news M (x::ys)=Bfs.news (Bfs.news M [x]) ys:=R6 [x] ys M
def LY (near:Bool) (n a:Nat):List Nat:=if near then (if a+1 < n then [a+1] else []) else (List.range n).drop (a+1)
def SI (near:Bool) (l:List Int):List (List Int):=(List.range l.length).flatMap fun a=>(LY near l.length a).map fun b=>sw l a b
theorem wU (l:List Int):SI false l=xP l:=by
 unfold SI xP xO LY
 rw[List.map_flatMap]
 apply R7
 intro a _
 show ((if (false:Bool)=true then _ else (List.range l.length).drop (a+1)).map fun b=>sw l a b)=(((List.range l.length).drop (a+1)).map fun b=>(a,b)).map fun p=>sw l p.1 p.2
 rw[if_neg (by decide),List.map_map];rfl
section
variable {w:List Int} {F:List Int→Nat} (h8:R4 w) (hl:w.length≤6) (near:Bool) (n:Nat)
include h8 hl
theorem ZR (ih0:Bool→Nat→Nat→Nat→List EO→Nat→List Value→Option Value) (ih1:Bool→Nat→Nat→Nat→Sl→Int→Int→List EO→Nat→List Value→Option Value)
 {L0:List (List Int)} {l:List Int} (hlL:l∈L0) (hol:Nf w l) {a:Nat} (ha:a < l.length) (hFl:F l≤1000) (hF:∀ b,a < b→b < l.length→(near=true→b=a+1)→sw l a b ∉ L0→F (sw l a b)=F l+1) (hL0:L0.length≤270000) {i:Nat}:∀ (d ww b:Nat) (M:List (List Int)) (off nn c:Nat) (q:List Value),b+d=l.length→d < ww→a < b→(∀ x∈L0,x∈M)→(∀ x∈M,Nf w x)→M.length≤280000+b→QS M i off nn c q →
 ∃ off' nn' c' q', QS (Bfs.news M ((if near then (if b = a + 1 ∧ b < l.length then [b] else []) else (List.range l.length).drop b).map fun b => sw l a b)) i off' nn' c' q' ∧
  FY (Eb (n+1)) L ih0 ih1 ww near off nn c (sl 0 l) (Int.ofNat a) (Int.ofNat b) (Int.ofNat l.length) (Int.ofNat a) (Fp (KZ F M)) M.length q=KU (Eb (n+1)) L ih0 ih1 near off' nn' c' (sl 0 l) (Int.ofNat l.length) (Int.ofNat a) (Fp (KZ F (Bfs.news M ((if near then (if b=a+1∧b < l.length then [b] else []) else (List.range l.length).drop b).map fun b=>sw l a b)))) (Bfs.news M ((if near then (if b=a+1∧b < l.length then [b] else []) else (List.range l.length).drop b).map fun b=>sw l a b)).length q'
 | _,0,_,_,_,_,_,_,_,h,_,_,_,_,_=>by omega
 | 0, ww + 1, b, M, off, nn, c, q, hd, _, hab, hLM, hM, hMl, hq => by
  have hc:=hq.2.2.2.2.2
  have e:(if near then (if b=a+1∧b < l.length then [b] else []) else (List.range l.length).drop b)=[]:=by
   cases near with
   | true=>rw[if_pos rfl,if_neg (by omega)]
   | false=>rw[if_neg (by decide),List.drop_eq_nil_of_le (by simp;omega)]
  rw[e,List.map_nil]
  refine⟨off,nn,c,q,hq,?_⟩
  show G5 (Eb (n+1)) L ih0 ih1 (FY (Eb (n+1)) L ih0 ih1 ww) _ _ _ _ _ _ _ _ _ _ _ _=_
  unfold G5
  rw[I4,G9 (by omega),AA,DT,hc,Ak,Ak]
  unfold FX
  rw[AA,DT,hc,Ak,Ak]
  rfl
 | d + 1, ww + 1, b, M, off, nn, c, q, hd, hw, hab, hLM, hM, hMl, hq => by
  have hc:=hq.2.2.2.2.2
  have hb:b < l.length:=by omega
  have hll:l.length≤6:=by rw[hol.1];exact hl
  show ∃ off' nn' c' q',_∧G5 (Eb (n+1)) L ih0 ih1 (FY (Eb (n+1)) L ih0 ih1 ww) _ _ _ _ _ _ _ _ _ _ _ _=_
  by_cases hgo:near=true∧b≠a+1
  ·-- no neighbour
   obtain⟨rfl,hne⟩:=hgo
   rw[if_pos rfl,if_neg (fun k=>hne k.1),List.map_nil]
   refine⟨off,nn,c,q,hq,?_⟩
   unfold G5
   have e1:Bd (Int.ofNat b) (Aj .i64 (Int.add (Int.ofNat a) 1))=false:=by rw[DC a (by omega),Lr];exact decide_eq_false (fun k=>hne (Int.ofNat.inj k))
   rw[I4,Gy hb,Ak,show nt true=false from rfl,AA,DT,hc,Ak,Ak,e1]
   unfold FX
   rw[AA,DT,hc,Ak,Ak]
   rfl
  ·have hok:near=true→b=a+1:=fun k=>Classical.byContradiction fun k2=>hgo ⟨k,k2⟩
   obtain⟨off1,nn1,c1,q1,hq1,e1⟩:=wT h8 hl near n ih0 ih1 (FY (Eb (n+1)) L ih0 ih1 ww) hM (by omega) (hLM l hlL) ha hb (by omega) (fun k=>hF b hab hb hok fun k2=>k (hLM _ k2)) hFl hq
   have hM1:∀ x∈Bfs.news M [sw l a b],Nf w x:=fun x hx=>by
    obtain⟨E,e,h1,_⟩:=Bfs.news_ext [sw l a b] M
    rw[e] at hx
    rcases List.mem_append.1 hx with hx | hx
    ·exact hM x hx
    ·rw[List.mem_singleton.1 (h1 x hx).1];exact QB hol ha hb (by omega)
   have hlen1:(Bfs.news M [sw l a b]).length≤M.length+1:=by
    by_cases hx:sw l a b∈M
    ·rw[UH hx];omega
    ·rw[R5 hx];simp
   have hc1:=hq1.2.2.2.2.2
   obtain⟨off2,nn2,c2,q2,hq2,e2⟩:=ZR ih0 ih1 hlL hol ha hFl hF hL0 (i:=i) d ww (b+1) (Bfs.news M [sw l a b]) off1 nn1 c1 q1 (by omega) (by omega) (by omega) (fun x hx=>(Bfs.news_has [sw l a b] M).2 x (hLM x hx)) hM1 (by omega) hq1
   have el:Bfs.news M ((if near then (if b=a+1∧b < l.length then [b] else []) else (List.range l.length).drop b).map fun b=>sw l a b)=Bfs.news (Bfs.news M [sw l a b]) ((if near then (if b+1=a+1∧b+1 < l.length then [b+1] else []) else (List.range l.length).drop (b+1)).map fun b=>sw l a b):=by
    cases hn:near with
    | true =>
     have:=hok hn
     rw[if_pos rfl,if_pos rfl,if_pos ⟨this,hb⟩,if_neg (by omega)]
     rfl
    | false =>
     rw[if_neg (by decide),if_neg (by decide)]
     have yY:(List.range l.length).drop b=b::(List.range l.length).drop (b+1):=by
      rw[List.drop_eq_getElem_cons (by simpa using hb)];simp
     rw[yY,List.map_cons,UZ]
   rw[el]
   refine⟨off2,nn2,c2,q2,hq2,?_⟩
   rw[←e2]
   unfold G5
   have fin:FX (Eb (n+1)) L ih0 ih1 (FY (Eb (n+1)) L ih0 ih1 ww) near off nn c (sl 0 l) (Int.ofNat a) (Int.ofNat b) (Int.ofNat l.length) (Int.ofNat a) true (Fp (KZ F M)) M.length q=FY (Eb (n+1)) L ih0 ih1 ww near off1 nn1 c1 (sl 0 l) (Int.ofNat a) (Int.ofNat (b+1)) (Int.ofNat l.length) (Int.ofNat a) (Fp (KZ F (Bfs.news M [sw l a b]))) (Bfs.news M [sw l a b]).length q1:=by
    rw[e1]
    unfold Jj
    rw[DT,hc1,Ak,Ak,DC b (by omega)]
   rw[I4,Gy hb,Ak]
   cases hn:near with
   | true =>
    have hba:=hok hn
    have e3:Bd (Int.ofNat b) (Aj .i64 (Int.add (Int.ofNat a) 1))=true:=by rw[DC a (by omega),hba];exact ZQ _
    rw[show nt true=false from rfl,AA,DT,hc,Ak,Ak,e3]
    rw[hn] at fin
    exact fin
   | false =>
    rw[show nt false=true from rfl,Ak,DT,hc,Ak,Ak]
    rw[hn] at fin
    exact fin
omit h8 hl in
theorem wV (near:Bool) (n a:Nat):(if near then (if a+1=a+1∧a+1 < n then [a+1] else []) else (List.range n).drop (a+1))=LY near n a:=by
 unfold LY
 cases near with
 | true =>
  rw[if_pos rfl,if_pos rfl]
  by_cases c:a+1 < n
  ·rw[if_pos ⟨rfl,c⟩,if_pos c]
  ·rw[if_neg (fun k=>c k.2),if_neg c]
 | false=>rfl
def JP (near:Bool) (l:List Int) (a:Nat):List (List Int):=((List.range l.length).drop a).flatMap fun a=>(LY near l.length a).map fun b=>sw l a b
omit h8 hl in
theorem SK {near:Bool} {l:List Int} {a b:Nat} (hab:a < b) (hb:b < l.length) (hn:near=true→b=a+1):sw l a b∈SI near l:=by
 unfold SI
 refine List.mem_flatMap.2 ⟨a,List.mem_range.2 (by omega),List.mem_map.2 ⟨b,?_,rfl⟩⟩
 unfold LY
 cases near with
 | true=>rw[if_pos rfl,hn rfl,if_pos (by have:=hn rfl;omega)];simp
 | false =>
  rw[if_neg (by decide),List.mem_iff_getElem]
  refine⟨b - (a+1),by simp;omega,?_⟩
  simp;omega
omit h8 hl in
theorem WV {α:Type} [DecidableEq α] (xs:List α):∀ (M:List α),(Bfs.news M xs).length≤M.length+xs.length:=by
 induction xs with
 | nil=>intro M;exact Nat.le_refl _
 | cons x xs ih =>
  intro M
  have:=ih (if x∈M then M else M++[x])
  show (Bfs.news (if x∈M then M else M++[x]) xs).length≤_
  have h2:(if x∈M then M else M++[x]).length≤M.length+1:=by split <;> simp
  rw[List.length_cons];omega
omit h8 hl in
theorem lS (near:Bool) (n a:Nat):(LY near n a).length≤n:=by
 unfold LY
 split
 ·split
  ·simp;omega
  ·simp
 ·simp
omit h8 hl in
theorem lT {near:Bool} {n a b:Nat} (h:b∈LY near n a):a < b∧b < n∧(near=true→b=a+1):=by
 unfold LY at h
 cases near with
 | true =>
  rw[if_pos rfl] at h
  split at h
  ·have:=List.mem_singleton.1 h;exact⟨by omega,by omega,fun _=>this⟩
  ·cases h
 | false =>
  rw[if_neg (by decide)] at h
  obtain⟨k,hk,e⟩:=List.getElem_of_mem h
  simp at e hk
  exact⟨by omega,by omega,fun k=>by cases k⟩
theorem ZT (ih0:Bool→Nat→Nat→Nat→List EO→Nat→List Value→Option Value)
 {L0:List (List Int)} {l:List Int} (hlL:l∈L0) (hol:Nf w l) (hFl:F l≤1000) (hF:∀ z∈SI near l,z ∉ L0→F z=F l+1) (hL0:L0.length≤262144) {i:Nat}:∀ (d ww a:Nat) (M:List (List Int)) (off nn c:Nat) (q:List Value),a+d=l.length→d < ww→(∀ x∈L0,x∈M)→(∀ x∈M,Nf w x)→M.length≤270000+6*a→QS M i off nn c q →
 ∃ off' nn' c' q', QS (Bfs.news M (JP near l a)) i off' nn' c' q' ∧
  FL (Eb (n+1)) L ih0 ww near off nn c (sl 0 l) (Int.ofNat l.length) (Int.ofNat a) (Fp (KZ F M)) M.length q=KT (Eb (n+1)) L ih0 near off' nn' c' (Fp (KZ F (Bfs.news M (JP near l a)))) (Bfs.news M (JP near l a)).length q'
 | _,0,_,_,_,_,_,_,_,h,_,_,_,_=>by omega
 | 0, ww + 1, a, M, off, nn, c, q, hd, _, hLM, hM, hMl, hq => by
  have hc:=hq.2.2.2.2.2
  have e:JP near l a=[]:=by unfold JP;rw[List.drop_eq_nil_of_le (by simp;omega)];rfl
  rw[e]
  refine⟨off,nn,c,q,hq,?_⟩
  show Iz (Eb (n+1)) L ih0 (FL (Eb (n+1)) L ih0 ww) _ _ _ _ _ _ _ _ _ _=_
  unfold Iz
  rw[DT,hc,Ak,Ak,G9 (by omega),AA]
  rfl
 | d + 1, ww + 1, a, M, off, nn, c, q, hd, hw, hLM, hM, hMl, hq => by
  have hc:=hq.2.2.2.2.2
  have ha:a < l.length:=by omega
  have hll:l.length≤6:=by rw[hol.1];exact hl
  obtain⟨off1,nn1,c1,q1,hq1,e1⟩:=ZR h8 hl near n ih0 (FL (Eb (n+1)) L ih0 ww) (L0:=L0) hlL hol ha hFl (fun b hab hb hn k=>hF _ (SK hab hb hn) k) (by omega) (i:=i) (l.length - (a+1)) L (a+1) M off nn c q (by omega) (by show _ < 1000000;omega) (by omega) hLM hM (by omega) hq
  rw[wV] at e1 hq1
  have hc1:=hq1.2.2.2.2.2
  have hM1:∀ x∈Bfs.news M ((LY near l.length a).map fun b=>sw l a b),Nf w x:=fun x hx=>by
   obtain⟨E,e,h1,_⟩:=Bfs.news_ext ((LY near l.length a).map fun b=>sw l a b) M
   rw[e] at hx
   rcases List.mem_append.1 hx with hx | hx
   ·exact hM x hx
   ·obtain⟨b,hb,rfl⟩:=List.mem_map.1 (h1 x hx).1
    obtain⟨k1,k2,_⟩:=lT hb
    exact QB hol (by omega) k2 (by omega)
  have hlen:=WV ((LY near l.length a).map fun b=>sw l a b) M
  rw[List.length_map] at hlen
  have hbl:=lS near l.length a
  obtain⟨off2,nn2,c2,q2,hq2,e2⟩:=ZT ih0 hlL hol hFl hF hL0 (i:=i) d ww (a+1) _ off1 nn1 c1 q1 (by omega) (by omega) (fun x hx=>(Bfs.news_has _ M).2 x (hLM x hx)) hM1 (by omega) hq1
  have el:JP near l a=((LY near l.length a).map fun b=>sw l a b)++JP near l (a+1):=by
   unfold JP
   have yY:(List.range l.length).drop a=a::(List.range l.length).drop (a+1):=by
    rw[List.drop_eq_getElem_cons (by simpa using ha)];simp
   rw[yY,List.flatMap_cons]
  rw[el,R6]
  refine⟨off2,nn2,c2,q2,hq2,?_⟩
  rw[←e2]
  show Iz (Eb (n+1)) L ih0 (FL (Eb (n+1)) L ih0 ww) _ _ _ _ _ _ _ _ _ _=_
  unfold Iz
  rw[DT,hc,Ak,Ak,Gy ha,Ak,DC a (by omega),e1]
  unfold KU
  rw[DT,hc1,Ak,Ak,DC a (by omega)]
theorem Po {M:List (List Int)} (hn:M.Nodup) (hM:∀ x∈M,Nf w x):M.length≤262144:=by
 have h1:(M.map fun x=>Dn x 0).Nodup:=by
  rw[List.Nodup,List.pairwise_map]
  refine(List.Pairwise.and_mem.1 hn).imp ?_
  rintro a b ⟨ha,hb,hne⟩ e
  exact hne (QC a b 0 0 (by rw[(hM a ha).1,(hM b hb).1]) (HY h8 (hM a ha)) (HY h8 (hM b hb)) e).1
 have:=ZO (M.map fun x=>Dn x 0) (List.range 262144) h1 fun y hy=>by
  obtain⟨x,hx,rfl⟩:=List.mem_map.1 hy
  have h2:=lK x 0 (HY h8 (hM x hx))
  have h3:(8:Nat) ^ x.length≤8 ^ 6:=Nat.pow_le_pow_right (by decide) (by rw[(hM x hx).1];exact hl)
  rw[List.mem_range]
  have:(8:Nat) ^ 6=262144:=rfl
  omega
 rw[List.length_map,List.length_range] at this
 exact this
theorem bI (W:Bfs.World (SI near) (Nf w) F w) (hFb:∀ x,Nf w x→F x≤1000):∀ (d ww i:Nat) (M:List (List Int)) (off nn c:Nat) (q:List Value),Bfs.Inv (SI near) (Nf w) F w M i→262145≤i+d→d < ww→QS M i off nn c q →
 ∃ L',Bfs.Inv (SI near) (Nf w) F w L' L'.length∧Eo (Eb (n+1)) L ww near off nn c (Fp (KZ F M)) M.length q=some (.tuple ⟨[.map (some 1),Ef (.map (Fp (KZ F L')) L'.length)]⟩)
 | _,0,_,_,_,_,_,_,_,_,h,_=>by omega
 | d, ww + 1, i, M, off, nn, c, q, hI, hd, hw, hq => by
  have hc:=hq.2.2.2.2.2
  have hb:=Po h8 hl hI.nd hI.mem
  by_cases hi:i < M.length
  ·have hol:=hI.mem _ (List.getElem_mem hi)
   have hn:nn≠0:=by have:=hq.1;omega
   have hnn:0 < nn:=by omega
   have hd0:0 < d:=by omega
   obtain⟨d',rfl⟩:∃ d',d=d'+1:=⟨d - 1,by omega⟩
   obtain⟨off1,nn1,c1,q1,hq1,e1⟩:=ZT h8 hl near n (Eo (Eb (n+1)) L ww) (L0:=M) (List.getElem_mem hi) hol (hFb _ hol) (fun z hz k=>Bfs.new_val W hI hi hz k) (by omega) (i:=i) M[i].length L 0 M off nn c q (by omega) (by show _ < 1000000;have:=hol.1;omega) (fun x hx=>hx) hI.mem (by omega) hq
   have hf:JP near M[i] 0=SI near M[i]:=rfl
   rw[hf] at hq1 e1
   have hI1:=Bfs.inv_step W hI hi
   have hc1:=hq1.2.2.2.2.2
   have hi1:i < (Bfs.news M (SI near M[i])).length:=by
    obtain⟨E,e,_,_⟩:=Bfs.news_ext (SI near M[i]) M
    rw[e,List.length_append];omega
   obtain⟨L',hL',e2⟩:=bI W hFb d' ww (i+1) _ _ _ _ q1 hI1 (by omega) (by omega) (lQ hq1 hi1)
   refine⟨L',hL',?_⟩
   rw[←e2]
   show IB (Eb (n+1)) L (Eo (Eb (n+1)) L ww) _ _ _ _ _ _ _=_
   unfold IB
   have hlt:AY (0:Int) (Int.ofNat nn)=true:=by rw[yV];show (0:Int) < (nn:Int);omega
   rw[DT,hc,Ak,Ak,hlt,Ak,zK hnn,Ak,Yn hq hi,Ac,show Bj 1 (S 0 M[i])=some (sl 0 M[i]) from rfl,Ac,I4]
   refine Eq.trans e1 ?_
   unfold KT
   have h1n:Nat.ble 1 nn1=true:=Nat.ble_eq_true_of_le (by have:=hq1.1;omega)
   rw[h1n,DT,hc1,Ak,Ak,Ak]
  ·have hle:=hI.le
   have hiM:i=M.length:=by omega
   subst hiM
   have hn:nn=0:=by have:=hq.1;omega
   refine⟨M,hI,?_⟩
   show IB (Eb (n+1)) L (Eo (Eb (n+1)) L ww) _ _ _ _ _ _ _=_
   unfold IB
   rw[DT,hc,Ak,Ak,hn,show AY (0:Int) (Int.ofNat 0)=false from rfl,AA]
   unfold KS
   rw[DT,Ak]
theorem lU (W:Bfs.World (SI near) (Nf w) F w) (hFb:∀ x,Nf w x→F x≤1000):∃ L',Bfs.Inv (SI near) (Nf w) F w L' L'.length∧Eb (n+2) 10220 [S 0 w,.bool near]=some (.tuple ⟨[.map (some 1),Ef (.map (Fp (KZ F L')) L'.length)]⟩):=by
 have e:Eb (n+2) 10220 [S 0 w,.bool near]=K3 (Eb (n+1)) L (sl 0 w) near:=by kernel_rfl
 have e23:Eb (n+1) 23 [Sl.v 1 (sl 0 w)]=some (.int .i64 (Int.ofNat (Dn w 0))):=zN n 0 w h8 hl
 obtain⟨L',hL',e1⟩:=bI h8 hl near n W hFb 262145 L 0 [w] 0 1 2 [S 0 w] (Bfs.inv_start W) (by omega) (by show _ < 1000000;omega) ⟨rfl,rfl,rfl,rfl,rfl,rfl⟩
 refine⟨L',hL',?_⟩
 rw[e];unfold K3
 have hps:KZ F [w]=[(Dn w 0,0)]:=by unfold KZ;rw[List.map_cons,List.map_nil,W.h0]
 rw[hps] at e1
 rw[e23,Ac,BP,Ac,show GD (.int .i64 (Int.ofNat (Dn w 0))) ([]:List EO) 0=some none from rfl,Ac]
 exact e1
end
end Go.MnWM
set_option maxRecDepth 100000
namespace Go.MdM
open Go Go.Sp Go.RgP
def Kb (ps:List (Nat×Nat)) (i:Nat):Nat×Nat:=(ps[i]?).getD (0,0)
theorem U0 {n i:Nat} {seen:List Nat} (h:i∈left n seen):(left n seen).Perm (i::left n (Br seen [i])):=by
 rw[Pg]
 have e:((left n seen).filter fun j=>decide (j≠i))=(left n seen).erase i:=by
  rw[(SF n seen).erase_eq_filter]
  congr 1
  funext j
  by_cases hj:j=i <;> simp[hj]
 rw[e]
 exact List.perm_cons_erase h
theorem SQ {β:Type} {f:β→Nat→β} {n i:Nat} {seen:List Nat} (hc:∀ x∈left n seen,∀ y∈left n seen,∀ z,f (f z x) y=f (f z y) x) (h:i∈left n seen) (z:β) :
 (left n (Br seen [i])).foldl f (f z i)=(left n seen).foldl f z:=by
 have:=(U0 h).foldl_eq' (f:=f) hc z
 rw[this];rfl
theorem R8 (n:Nat):left n []=List.range n:=by unfold left;simp
theorem R9 {β:Type} (f:β→Nat×Nat→β) (ps:List (Nat×Nat)) (z:β):(List.range ps.length).foldl (fun z i=>f z (Kb ps i)) z=ps.foldl f z:=by
 have:(List.range ps.length).map (Kb ps)=ps:=by
  apply List.ext_getElem
  ·simp
  ·intro i h1 h2;simp[Kb,h2]
 rw[←List.foldl_map (f:=Kb ps) (g:=f),this]
end Go.MdM
set_option maxRecDepth 100000
set_option maxHeartbeats 4000000
namespace Go.MnWM
open Go Go.Sp Go.MnW Go.MdM Go.RgP
noncomputable def VU (z:Int) (p:Nat×Nat):Int:=bb (AY z (Int.ofNat p.2)) (Int.ofNat p.2) z
theorem WW (z:Int) (p:Nat×Nat):VU z p=max z (Int.ofNat p.2):=by
 unfold VU
 rw[JY]
 by_cases h:z < Int.ofNat p.2
 ·rw[decide_eq_true h,Ak];omega
 ·rw[decide_eq_false h,AA];omega
theorem WX (z:Int) (p q:Nat×Nat):VU (VU z p) q=VU (VU z q) p:=by
 simp only[WW];omega
theorem Sa (pu:Af) (n:Nat) {ps:List (Nat×Nat)} (K:Int) (nn c:Nat) (kk:Int) (q:List Value) (hq:Au Ah q=true):∀ (w:Nat) (seen:List Nat) (z:Int),(left ps.length seen).length < w →
 KJ pu n w K nn c z kk q ps.length seen ps.length (Fp ps) ps.length=Iy pu n K nn c ((left ps.length seen).foldl (fun z i=>VU z (Kb ps i)) z) kk q
 | 0,_,_,h=>by omega
 | w + 1, seen, z, h => by
  have hv:∃ v,Iy pu n K nn c ((left ps.length seen).foldl (fun z i=>VU z (Kb ps i)) z) kk q=some v:=by
   unfold Iy;rw[hq,Ak];exact⟨_,rfl⟩
  obtain⟨v,hv⟩:=hv
  show Ki pu n (KJ pu n w) K nn c z kk q ps.length seen ps.length (Fp ps) ps.length=_
  unfold Ki
  rw[WN,Ak,show Nat.ble ps.length ps.length=true from Nat.ble_eq_true_of_le (Nat.le_refl _),Ak,DT,hq,hv]
  refine VV (fun hl=>?_) fun e he=>?_
  ·rw[Ak,Ak,←hv,UX hl];rfl
  ·obtain⟨d,c',h1,h2⟩:=WO he
   have ep:Kb ps e.born=(d,c'):=by simp[Kb,h1]
   rw[Ak,Ak,UW ps seen e.born d c' h1,Ac]
   have ih:=Sa pu n (ps:=ps) K nn c kk q hq w (Br seen [e.born]) (VU z (d,c')) (by have:=UY h2;omega)
   have fl:=SQ (f:=fun z i=>VU z (Kb ps i)) (fun x hx y hy z=>WX z _ _) h2 z
   rw[ep] at fl
   rw[fl,hv] at ih
   exact ih
end Go.MnWM
set_option maxRecDepth 100000
set_option maxHeartbeats 4000000
namespace Go.MnWM
open Go Go.Sp Go.MnW Go.MdM Go.RgP
noncomputable def mD (es:List EO):Int:=List.rec (motive:=fun _=>Int) 0 (fun e _ ih=>oo (Bi .i64 e.val) 99 fun z=>bb (AY ih z) z ih) es
noncomputable def zQ (v:Option Value):Int:=oo v 77 fun v=>oo (CQ v) 76 fun l=>ll l 75 fun _ r=>ll r 74 fun o _=>oo (Fj o) 73 fun y=>mD (Akd.es y)

def Gw:List (List Nat×Nat):=[([0],0),([1],0),([2],0),([3],0),([0,0],0),([0,1],1),([0,2],1),([0,3],1),([1,1],0),([1,2],1),([1,3],1),([2,2],0),([2,3],1),([3,3],0),([0,0,0],0),([0,0,1],1),([0,0,2],1),([0,0,3],1),([0,1,1],1),([0,1,2],2),([0,1,3],2),([0,2,2],1),([0,2,3],2),([0,3,3],1),([1,1,1],0),([1,1,2],1),([1,1,3],1),([1,2,2],1),([1,2,3],2),([1,3,3],1),([2,2,2],0),([2,2,3],1),([2,3,3],1),([3,3,3],0),([0,0,0,0],0),([0,0,0,1],1),([0,0,0,2],1),([0,0,0,3],1),([0,0,1,1],2),([0,0,1,2],2),([0,0,1,3],2),([0,0,2,2],2),([0,0,2,3],2),([0,0,3,3],2),([0,1,1,1],1),([0,1,1,2],2),([0,1,1,3],2),([0,1,2,2],2),([0,1,2,3],3),([0,1,3,3],2),([0,2,2,2],1),([0,2,2,3],2),([0,2,3,3],2),([0,3,3,3],1),([1,1,1,1],0),([1,1,1,2],1),([1,1,1,3],1),([1,1,2,2],2),([1,1,2,3],2),([1,1,3,3],2),([1,2,2,2],1),([1,2,2,3],2),([1,2,3,3],2),([1,3,3,3],1),([2,2,2,2],0),([2,2,2,3],1),([2,2,3,3],2),([2,3,3,3],1),([3,3,3,3],0),([0,0,0,0,0],0),([0,0,0,0,1],1),([0,0,0,0,2],1),([0,0,0,0,3],1),([0,0,0,1,1],2),([0,0,0,1,2],2),([0,0,0,1,3],2),([0,0,0,2,2],2),([0,0,0,2,3],2),([0,0,0,3,3],2),([0,0,1,1,1],2),([0,0,1,1,2],3),([0,0,1,1,3],3),([0,0,1,2,2],3),([0,0,1,2,3],3),([0,0,1,3,3],3),([0,0,2,2,2],2),([0,0,2,2,3],3),([0,0,2,3,3],3),([0,0,3,3,3],2),([0,1,1,1,1],1),([0,1,1,1,2],2),([0,1,1,1,3],2),([0,1,1,2,2],3),([0,1,1,2,3],3),([0,1,1,3,3],3),([0,1,2,2,2],2),([0,1,2,2,3],3),([0,1,2,3,3],3),([0,1,3,3,3],2),([0,2,2,2,2],1),([0,2,2,2,3],2),([0,2,2,3,3],3),([0,2,3,3,3],2),([0,3,3,3,3],1),([1,1,1,1,1],0),([1,1,1,1,2],1),([1,1,1,1,3],1),([1,1,1,2,2],2),([1,1,1,2,3],2),([1,1,1,3,3],2),([1,1,2,2,2],2),([1,1,2,2,3],3),([1,1,2,3,3],3),([1,1,3,3,3],2),([1,2,2,2,2],1),([1,2,2,2,3],2),([1,2,2,3,3],3),([1,2,3,3,3],2),([1,3,3,3,3],1),([2,2,2,2,2],0),([2,2,2,2,3],1),([2,2,2,3,3],2),([2,2,3,3,3],2),([2,3,3,3,3],1),([3,3,3,3,3],0)]

def LJ (n:Nat) (t:List (List Nat×Nat)):Prop:=∀ p∈t,zQ (Eb (n+8) 10220 [S 0 (nI p.1),.bool false])=Int.ofNat p.2

theorem Jf (n:Nat):LJ n []:=fun _ h=>by cases h
theorem Dy {n:Nat} {l:List Nat} {d:Nat} {t:List (List Nat×Nat)} (h:zQ (Eb (n+8) 10220 [S 0 (nI l),.bool false])=Int.ofNat d) (r:LJ n t):LJ n ((l,d)::t):=fun p hp=>by
 rcases List.mem_cons.1 hp with rfl | hp
 ·exact h
 ·exact r p hp
theorem Kc {n:Nat} {s t:List (List Nat×Nat)} (h:LJ n s) (r:LJ n t):LJ n (s++t):=fun p hp=>(List.mem_append.1 hp).elim (h p) (r p)

theorem zR (n:Nat):LJ n [([0],0),([1],0),([2],0),([3],0),([0,0],0),([0,1],1),([0,2],1),([0,3],1),([1,1],0),([1,2],1),([1,3],1),([2,2],0),([2,3],1),([3,3],0),([0,0,0],0),([0,0,1],1)]:=(Dy (l:=[0]) (d:=0) (by kernel_rfl) (Dy (l:=[1]) (d:=0) (by kernel_rfl) (Dy (l:=[2]) (d:=0) (by kernel_rfl) (Dy (l:=[3]) (d:=0) (by kernel_rfl) (Dy (l:=[0,0]) (d:=0) (by kernel_rfl) (Dy (l:=[0,1]) (d:=1) (by kernel_rfl) (Dy (l:=[0,2]) (d:=1) (by kernel_rfl) (Dy (l:=[0,3]) (d:=1) (by kernel_rfl) (Dy (l:=[1,1]) (d:=0) (by kernel_rfl) (Dy (l:=[1,2]) (d:=1) (by kernel_rfl) (Dy (l:=[1,3]) (d:=1) (by kernel_rfl) (Dy (l:=[2,2]) (d:=0) (by kernel_rfl) (Dy (l:=[2,3]) (d:=1) (by kernel_rfl) (Dy (l:=[3,3]) (d:=0) (by kernel_rfl) (Dy (l:=[0,0,0]) (d:=0) (by kernel_rfl) (Dy (l:=[0,0,1]) (d:=1) (by kernel_rfl) (Jf n)))))))))))))))))

theorem zS (n:Nat):LJ n [([0,0,2],1),([0,0,3],1),([0,1,1],1),([0,1,2],2),([0,1,3],2),([0,2,2],1),([0,2,3],2),([0,3,3],1),([1,1,1],0),([1,1,2],1),([1,1,3],1),([1,2,2],1),([1,2,3],2),([1,3,3],1),([2,2,2],0),([2,2,3],1)]:=(Dy (l:=[0,0,2]) (d:=1) (by kernel_rfl) (Dy (l:=[0,0,3]) (d:=1) (by kernel_rfl) (Dy (l:=[0,1,1]) (d:=1) (by kernel_rfl) (Dy (l:=[0,1,2]) (d:=2) (by kernel_rfl) (Dy (l:=[0,1,3]) (d:=2) (by kernel_rfl) (Dy (l:=[0,2,2]) (d:=1) (by kernel_rfl) (Dy (l:=[0,2,3]) (d:=2) (by kernel_rfl) (Dy (l:=[0,3,3]) (d:=1) (by kernel_rfl) (Dy (l:=[1,1,1]) (d:=0) (by kernel_rfl) (Dy (l:=[1,1,2]) (d:=1) (by kernel_rfl) (Dy (l:=[1,1,3]) (d:=1) (by kernel_rfl) (Dy (l:=[1,2,2]) (d:=1) (by kernel_rfl) (Dy (l:=[1,2,3]) (d:=2) (by kernel_rfl) (Dy (l:=[1,3,3]) (d:=1) (by kernel_rfl) (Dy (l:=[2,2,2]) (d:=0) (by kernel_rfl) (Dy (l:=[2,2,3]) (d:=1) (by kernel_rfl) (Jf n)))))))))))))))))

theorem zT (n:Nat):LJ n [([2,3,3],1),([3,3,3],0),([0,0,0,0],0),([0,0,0,1],1),([0,0,0,2],1),([0,0,0,3],1),([0,0,1,1],2),([0,0,1,2],2),([0,0,1,3],2),([0,0,2,2],2),([0,0,2,3],2),([0,0,3,3],2),([0,1,1,1],1),([0,1,1,2],2),([0,1,1,3],2),([0,1,2,2],2)]:=(Dy (l:=[2,3,3]) (d:=1) (by kernel_rfl) (Dy (l:=[3,3,3]) (d:=0) (by kernel_rfl) (Dy (l:=[0,0,0,0]) (d:=0) (by kernel_rfl) (Dy (l:=[0,0,0,1]) (d:=1) (by kernel_rfl) (Dy (l:=[0,0,0,2]) (d:=1) (by kernel_rfl) (Dy (l:=[0,0,0,3]) (d:=1) (by kernel_rfl) (Dy (l:=[0,0,1,1]) (d:=2) (by kernel_rfl) (Dy (l:=[0,0,1,2]) (d:=2) (by kernel_rfl) (Dy (l:=[0,0,1,3]) (d:=2) (by kernel_rfl) (Dy (l:=[0,0,2,2]) (d:=2) (by kernel_rfl) (Dy (l:=[0,0,2,3]) (d:=2) (by kernel_rfl) (Dy (l:=[0,0,3,3]) (d:=2) (by kernel_rfl) (Dy (l:=[0,1,1,1]) (d:=1) (by kernel_rfl) (Dy (l:=[0,1,1,2]) (d:=2) (by kernel_rfl) (Dy (l:=[0,1,1,3]) (d:=2) (by kernel_rfl) (Dy (l:=[0,1,2,2]) (d:=2) (by kernel_rfl) (Jf n)))))))))))))))))

theorem zU (n:Nat):LJ n [([0,1,2,3],3),([0,1,3,3],2),([0,2,2,2],1),([0,2,2,3],2),([0,2,3,3],2),([0,3,3,3],1),([1,1,1,1],0),([1,1,1,2],1),([1,1,1,3],1),([1,1,2,2],2),([1,1,2,3],2),([1,1,3,3],2),([1,2,2,2],1),([1,2,2,3],2),([1,2,3,3],2),([1,3,3,3],1)]:=(Dy (l:=[0,1,2,3]) (d:=3) (by kernel_rfl) (Dy (l:=[0,1,3,3]) (d:=2) (by kernel_rfl) (Dy (l:=[0,2,2,2]) (d:=1) (by kernel_rfl) (Dy (l:=[0,2,2,3]) (d:=2) (by kernel_rfl) (Dy (l:=[0,2,3,3]) (d:=2) (by kernel_rfl) (Dy (l:=[0,3,3,3]) (d:=1) (by kernel_rfl) (Dy (l:=[1,1,1,1]) (d:=0) (by kernel_rfl) (Dy (l:=[1,1,1,2]) (d:=1) (by kernel_rfl) (Dy (l:=[1,1,1,3]) (d:=1) (by kernel_rfl) (Dy (l:=[1,1,2,2]) (d:=2) (by kernel_rfl) (Dy (l:=[1,1,2,3]) (d:=2) (by kernel_rfl) (Dy (l:=[1,1,3,3]) (d:=2) (by kernel_rfl) (Dy (l:=[1,2,2,2]) (d:=1) (by kernel_rfl) (Dy (l:=[1,2,2,3]) (d:=2) (by kernel_rfl) (Dy (l:=[1,2,3,3]) (d:=2) (by kernel_rfl) (Dy (l:=[1,3,3,3]) (d:=1) (by kernel_rfl) (Jf n)))))))))))))))))

theorem zV (n:Nat):LJ n [([2,2,2,2],0),([2,2,2,3],1),([2,2,3,3],2),([2,3,3,3],1),([3,3,3,3],0),([0,0,0,0,0],0),([0,0,0,0,1],1),([0,0,0,0,2],1),([0,0,0,0,3],1),([0,0,0,1,1],2),([0,0,0,1,2],2),([0,0,0,1,3],2),([0,0,0,2,2],2),([0,0,0,2,3],2),([0,0,0,3,3],2),([0,0,1,1,1],2)]:=(Dy (l:=[2,2,2,2]) (d:=0) (by kernel_rfl) (Dy (l:=[2,2,2,3]) (d:=1) (by kernel_rfl) (Dy (l:=[2,2,3,3]) (d:=2) (by kernel_rfl) (Dy (l:=[2,3,3,3]) (d:=1) (by kernel_rfl) (Dy (l:=[3,3,3,3]) (d:=0) (by kernel_rfl) (Dy (l:=[0,0,0,0,0]) (d:=0) (by kernel_rfl) (Dy (l:=[0,0,0,0,1]) (d:=1) (by kernel_rfl) (Dy (l:=[0,0,0,0,2]) (d:=1) (by kernel_rfl) (Dy (l:=[0,0,0,0,3]) (d:=1) (by kernel_rfl) (Dy (l:=[0,0,0,1,1]) (d:=2) (by kernel_rfl) (Dy (l:=[0,0,0,1,2]) (d:=2) (by kernel_rfl) (Dy (l:=[0,0,0,1,3]) (d:=2) (by kernel_rfl) (Dy (l:=[0,0,0,2,2]) (d:=2) (by kernel_rfl) (Dy (l:=[0,0,0,2,3]) (d:=2) (by kernel_rfl) (Dy (l:=[0,0,0,3,3]) (d:=2) (by kernel_rfl) (Dy (l:=[0,0,1,1,1]) (d:=2) (by kernel_rfl) (Jf n)))))))))))))))))

theorem zW (n:Nat):LJ n [([0,0,1,1,2],3),([0,0,1,1,3],3),([0,0,1,2,2],3),([0,0,1,2,3],3),([0,0,1,3,3],3),([0,0,2,2,2],2),([0,0,2,2,3],3),([0,0,2,3,3],3),([0,0,3,3,3],2),([0,1,1,1,1],1),([0,1,1,1,2],2),([0,1,1,1,3],2),([0,1,1,2,2],3),([0,1,1,2,3],3),([0,1,1,3,3],3),([0,1,2,2,2],2)]:=(Dy (l:=[0,0,1,1,2]) (d:=3) (by kernel_rfl) (Dy (l:=[0,0,1,1,3]) (d:=3) (by kernel_rfl) (Dy (l:=[0,0,1,2,2]) (d:=3) (by kernel_rfl) (Dy (l:=[0,0,1,2,3]) (d:=3) (by kernel_rfl) (Dy (l:=[0,0,1,3,3]) (d:=3) (by kernel_rfl) (Dy (l:=[0,0,2,2,2]) (d:=2) (by kernel_rfl) (Dy (l:=[0,0,2,2,3]) (d:=3) (by kernel_rfl) (Dy (l:=[0,0,2,3,3]) (d:=3) (by kernel_rfl) (Dy (l:=[0,0,3,3,3]) (d:=2) (by kernel_rfl) (Dy (l:=[0,1,1,1,1]) (d:=1) (by kernel_rfl) (Dy (l:=[0,1,1,1,2]) (d:=2) (by kernel_rfl) (Dy (l:=[0,1,1,1,3]) (d:=2) (by kernel_rfl) (Dy (l:=[0,1,1,2,2]) (d:=3) (by kernel_rfl) (Dy (l:=[0,1,1,2,3]) (d:=3) (by kernel_rfl) (Dy (l:=[0,1,1,3,3]) (d:=3) (by kernel_rfl) (Dy (l:=[0,1,2,2,2]) (d:=2) (by kernel_rfl) (Jf n)))))))))))))))))

theorem zX (n:Nat):LJ n [([0,1,2,2,3],3),([0,1,2,3,3],3),([0,1,3,3,3],2),([0,2,2,2,2],1),([0,2,2,2,3],2),([0,2,2,3,3],3),([0,2,3,3,3],2),([0,3,3,3,3],1),([1,1,1,1,1],0),([1,1,1,1,2],1),([1,1,1,1,3],1),([1,1,1,2,2],2),([1,1,1,2,3],2),([1,1,1,3,3],2),([1,1,2,2,2],2),([1,1,2,2,3],3)]:=(Dy (l:=[0,1,2,2,3]) (d:=3) (by kernel_rfl) (Dy (l:=[0,1,2,3,3]) (d:=3) (by kernel_rfl) (Dy (l:=[0,1,3,3,3]) (d:=2) (by kernel_rfl) (Dy (l:=[0,2,2,2,2]) (d:=1) (by kernel_rfl) (Dy (l:=[0,2,2,2,3]) (d:=2) (by kernel_rfl) (Dy (l:=[0,2,2,3,3]) (d:=3) (by kernel_rfl) (Dy (l:=[0,2,3,3,3]) (d:=2) (by kernel_rfl) (Dy (l:=[0,3,3,3,3]) (d:=1) (by kernel_rfl) (Dy (l:=[1,1,1,1,1]) (d:=0) (by kernel_rfl) (Dy (l:=[1,1,1,1,2]) (d:=1) (by kernel_rfl) (Dy (l:=[1,1,1,1,3]) (d:=1) (by kernel_rfl) (Dy (l:=[1,1,1,2,2]) (d:=2) (by kernel_rfl) (Dy (l:=[1,1,1,2,3]) (d:=2) (by kernel_rfl) (Dy (l:=[1,1,1,3,3]) (d:=2) (by kernel_rfl) (Dy (l:=[1,1,2,2,2]) (d:=2) (by kernel_rfl) (Dy (l:=[1,1,2,2,3]) (d:=3) (by kernel_rfl) (Jf n)))))))))))))))))

theorem zZ (n:Nat):LJ n [([1,1,2,3,3],3),([1,1,3,3,3],2),([1,2,2,2,2],1),([1,2,2,2,3],2),([1,2,2,3,3],3),([1,2,3,3,3],2),([1,3,3,3,3],1),([2,2,2,2,2],0),([2,2,2,2,3],1),([2,2,2,3,3],2),([2,2,3,3,3],2),([2,3,3,3,3],1),([3,3,3,3,3],0)]:=(Dy (l:=[1,1,2,3,3]) (d:=3) (by kernel_rfl) (Dy (l:=[1,1,3,3,3]) (d:=2) (by kernel_rfl) (Dy (l:=[1,2,2,2,2]) (d:=1) (by kernel_rfl) (Dy (l:=[1,2,2,2,3]) (d:=2) (by kernel_rfl) (Dy (l:=[1,2,2,3,3]) (d:=3) (by kernel_rfl) (Dy (l:=[1,2,3,3,3]) (d:=2) (by kernel_rfl) (Dy (l:=[1,3,3,3,3]) (d:=1) (by kernel_rfl) (Dy (l:=[2,2,2,2,2]) (d:=0) (by kernel_rfl) (Dy (l:=[2,2,2,2,3]) (d:=1) (by kernel_rfl) (Dy (l:=[2,2,2,3,3]) (d:=2) (by kernel_rfl) (Dy (l:=[2,2,3,3,3]) (d:=2) (by kernel_rfl) (Dy (l:=[2,3,3,3,3]) (d:=1) (by kernel_rfl) (Dy (l:=[3,3,3,3,3]) (d:=0) (by kernel_rfl) (Jf n))))))))))))))

theorem Aaa (n:Nat):LJ n Gw:=Kc (zR n) (Kc (zS n) (Kc (zT n) (Kc (zU n) (Kc (zV n) (Kc (zW n) (Kc (zX n) (zZ n)))))))

end Go.MnWM
set_option maxRecDepth 100000
set_option maxHeartbeats 4000000
namespace Go.MnWM
open Go Go.Sp Go.MnW Go.MdM Go.RgP
def top (ps:List (Nat×Nat)):Nat:=ps.foldr (fun p m=>max m p.2) 0
theorem Sb:∀ (ps:List (Nat×Nat)) (i:Nat),mD (Gp ps i)=Int.ofNat (top ps)
 | [],_=>rfl
 | (d, c) :: r, i => by
  have ih:=Sb r (i+1)
  show bb (AY (mD (Gp r (i+1))) (Int.ofNat c)) (Int.ofNat c) (mD (Gp r (i+1)))=Int.ofNat (max (top r) c)
  rw[ih,JY]
  by_cases h:Int.ofNat (top r) < Int.ofNat c
  ·rw[decide_eq_true h,Ak]
   have h:((top r:Nat):Int) < ((c:Nat):Int):=h
   rw[Nat.max_eq_right (by omega)]
  ·rw[decide_eq_false h,AA]
   have h:¬ ((top r:Nat):Int) < ((c:Nat):Int):=h
   rw[Nat.max_eq_left (by omega)]
theorem Sc:∀ (ps:List (Nat×Nat)) (z:Nat),ps.foldl VU (Int.ofNat z)=Int.ofNat (max z (top ps))
 | [],z=>by show Int.ofNat z=Int.ofNat (max z 0);rw[Nat.max_eq_left (Nat.zero_le _)]
 | p :: r, z => by
  have e:VU (Int.ofNat z) p=Int.ofNat (max z p.2):=by
   rw[WW];show max (z:Int) (p.2:Int)=((max z p.2:Nat):Int);omega
  rw[List.foldl_cons,e,Sc r]
  show Int.ofNat _=Int.ofNat (max z (max (top r) p.2))
  congr 1;omega
theorem Pp:∀ (ps:List (Nat×Nat)) (i:Nat),Au MI (Gp ps i)=true
 | [],_=>rfl
 | (d, c) :: r, i => by
  show an (MI ⟨IV (Int.ofNat d),IV (Int.ofNat c),i⟩) (Au MI (Gp r (i+1)))=true
  rw[Pp r (i+1)];rfl
theorem far {l:List Nat} {d:Nat} (h:(l,d)∈Gw) (h8:R4 (nI l)) (hl:l.length≤5) (n:Nat):∃ ps:List (Nat×Nat),ps.length≤262144∧top ps=d∧Eb (n+8) 10220 [S 0 (nI l),.bool false]=some (.tuple ⟨[.map (some 1),Ef (.map (Fp ps) ps.length)]⟩):=by
 have W:Bfs.World (SI false) (Nf (nI l)) (O1 (nI l)) (nI l):=by
  have e:SI false=xP:=funext wU
  rw[e];exact lJ (nI l)
 have hFb:∀ y,Nf (nI l) y→O1 (nI l) y≤1000:=fun y _=>by unfold O1;rw[Jh];omega
 obtain⟨L',hI,e2⟩:=lU h8 (by rw[Jh];omega) false (n+6) W hFb
 have hr:=Aaa n (l,d) h
 refine⟨KZ (O1 (nI l)) L',by rw[Ow];exact Po h8 (by rw[Jh];omega) hI.nd hI.mem,?_,by rw[Ow];exact e2⟩
 have e3:Eb (n+8) 10220 [S 0 (nI l),.bool false]=_:=e2
 rw[e3] at hr
 have e4:zQ (some (.tuple ⟨[.map (some 1),Ef (.map (Fp (KZ (O1 (nI l)) L')) L'.length)]⟩))=mD (Fp (KZ (O1 (nI l)) L')):=by
  show oo (Fj (Ef (.map (Fp (KZ (O1 (nI l)) L')) L'.length))) 73 (fun y=>mD (Akd.es y))=_
  rw[CX];rfl
 rw[e4] at hr
 have:=Sb (KZ (O1 (nI l)) L') 0
 unfold Fp at hr
 rw[this] at hr
 exact Int.ofNat.inj hr
end Go.MnWM
set_option maxRecDepth 100000
set_option maxHeartbeats 4000000
namespace Go.MnWM
open Go Go.Sp Go.MnW Go.MdM Go.RgP
def Sd (pre:List Nat):Nat:=pre.getLast?.getD 0
def Fh (k:Nat):Nat→List Nat→List (List Nat)
 | 0,pre=>[pre]
 | d+1,pre=>((List.range k).drop (Sd pre)).flatMap fun c=>Fh k d (pre++[c])
def Dl (l:List Nat):Nat:=((Gw.find? fun p=>p.1 == l).map (·.2)).getD 0
def mx (z:Nat) (l:List Nat):Nat:=max z (Dl l)
noncomputable def wW (N K z:Nat) (W:List Nat):List Value:=
 [.agg ⟨[.int .i64 (Int.ofNat N)]⟩, .agg ⟨[.slice (some ⟨6, 0, some 1⟩) N (2 * N + 1)]⟩, .agg ⟨[.int .i64 (Int.ofNat z)]⟩, .agg ⟨[.int .i64 (Int.ofNat K)]⟩,
  .agg ⟨[.func (.func 28) ⟨[]⟩ ⟨[.pointer (some ⟨1,0,none⟩),.pointer (some ⟨2,0,none⟩),.pointer (some ⟨3,0,none⟩),.pointer (some ⟨4,0,none⟩),.pointer (some ⟨5,0,none⟩)]⟩]⟩,.agg ⟨(nI W).map I⟩]
noncomputable def lV (N K i z:Nat) (W:List Nat):List Value:=.int .i64 (Int.ofNat i) :: .pointer (some ⟨1,0,none⟩) :: .pointer (some ⟨2,0,none⟩) :: .pointer (some ⟨3,0,none⟩) :: .pointer (some ⟨4,0,none⟩) :: .pointer (some ⟨5,0,none⟩)::wW N K z W
noncomputable def wZ (N K z:Nat) (W:List Nat):Option Value:=some (.tuple ⟨.tuple ⟨[]⟩::wW N K z W⟩)
theorem UJ:MC (.tuple ⟨[]⟩)=true:=rfl
theorem WY:MK (.pointer (some ⟨1,0,none⟩)) 1 0=true:=rfl
theorem WZ:MK (.pointer (some ⟨2,0,none⟩)) 2 0=true:=rfl
theorem W9:MK (.pointer (some ⟨3,0,none⟩)) 3 0=true:=rfl
theorem Xa:MK (.pointer (some ⟨4,0,none⟩)) 4 0=true:=rfl
theorem Xb:MK (.pointer (some ⟨5,0,none⟩)) 5 0=true:=rfl
theorem TV:Om 28 0 (.func (.func 28) ⟨[]⟩ ⟨[.pointer (some ⟨1,0,none⟩),.pointer (some ⟨2,0,none⟩),.pointer (some ⟨3,0,none⟩),.pointer (some ⟨4,0,none⟩),.pointer (some ⟨5,0,none⟩)]⟩) =
 some [.pointer (some ⟨1,0,none⟩),.pointer (some ⟨2,0,none⟩),.pointer (some ⟨3,0,none⟩),.pointer (some ⟨4,0,none⟩),.pointer (some ⟨5,0,none⟩)]:=rfl
theorem Xc (n c:Nat):KP 6 0 1 (.slice (some ⟨6,0,some 1⟩) n c)=some ⟨n,c⟩:=rfl
theorem TW:∀ p∈Gw,p.1.length≤5∧∀ x∈p.1,x < 8:=by decide
def Dr (N K m d:Nat):Prop:=∀ (pre rest:List Nat) (z:Nat),rest.length=d→pre.length+d=N→(∀ l∈Fh K d pre,(l,Dl l)∈Gw) →
 ∃ rest':List Nat,rest'.length=d∧Eb m 10280 (lV N K pre.length z (pre++rest))=wZ N K ((Fh K d pre).foldl mx z) (pre++rest')
theorem Pq (N K i z:Nat) (W:List Nat) (n:Nat):Eb (n+1) 10280 (lV N K i z W)=Jw (Eb n) 1000000 (Int.ofNat i) (Int.ofNat N) N (2*N+1) (Int.ofNat z) (Int.ofNat K) ((nI W).map I):=by
 have e0:Eb (n+1) 10280 (lV N K i z W)=K7 (Eb n) 1000000 (lV N K i z W):=by kernel_rfl
 rw[e0]
 unfold K7 lV wW
 simp only[Ac,Dj,EG,RL,BP,WY,WZ,W9,Xa,Xb,TV,Xc,Ak]
theorem xA (N K:Nat) (W:List Nat) (z n:Nat) (hW:W.length=N) (hT:(W,Dl W)∈Gw):Eb (n+9) 10280 (lV N K N z W)=wZ N K (mx z W) W:=by
 rw[Pq]
 have hs:=TW _ hT
 have h8:R4 (nI W):=fun y hy=>by
  obtain⟨a,ha,rfl⟩:=List.mem_map.1 (show y∈W.map Int.ofNat from hy)
  have:=hs.2 a ha
  exact⟨by simp only[Int.ofNat_eq_natCast];omega,by simp only[Int.ofNat_eq_natCast];omega⟩
 obtain⟨ps,hb,t1,t2⟩:=far hT h8 hs.1 n
 subst hW
 have sW:Sl.mk W.length 0 ((nI W).map I)=sl 0 (nI W):=by unfold sl;rw[Jh]
 unfold S at t2
 unfold Jw
 rw[VM,Ak,ZQ,Ak,kX,Ak,takeN,sW,t2]
 have hm:FC (.map (some 1)) 1=true:=rfl
 have hsc:Au MI (Fp ps)=true:=Pp ps 0
 simp only[Ac,FW,Dj,EG,CX,hm,hsc,DT,Ak]
 rw[Sa (Eb (n+8)) 1000000 (Int.ofNat W.length) W.length (2*W.length+1) (Int.ofNat K) ((nI W).map I) (VM W) 1000000 [] (Int.ofNat z) (by rw[R8,List.length_range];omega),R8,R9,Sc,t1]
 unfold Iy
 rw[VM,Ak];rfl
theorem Aab (pre rest:List Nat) (r c:Nat):BM [I (Int.ofNat c)] (0+pre.length*1) ((nI (pre++r::rest)).map I)=(nI (pre++c::rest)).map I:=by
 rw[Ha _ _ _ (by simp[Jh]),Nat.zero_add,Nat.mul_one]
 simp[nI,List.set_append]
theorem Aac (N K m d:Nat) (pre:List Nat) (hN:pre.length+(d+1)=N) (hN5:N≤100) (hK:K≤100) (hP:Dr N K m d):∀ (f c r:Nat) (rest:List Nat) (z:Nat),K - c < f→rest.length=d →
 (∀ l∈((List.range K).drop c).flatMap (fun c=>Fh K d (pre++[c])),(l,Dl l)∈Gw) →
 ∃ (r' : Nat) (rest' : List Nat), rest'.length = d ∧ Ji (Eb m) 1000000 f (Int.ofNat pre.length) (Int.ofNat c) (Int.ofNat N) N (2 * N + 1) (Int.ofNat z) (Int.ofNat K) ((nI (pre ++ r :: rest)).map I) =
  wZ N K ((((List.range K).drop c).flatMap fun c=>Fh K d (pre++[c])).foldl mx z) (pre++r'::rest'):=by
 intro f
 induction f with
 | zero=>intro c r rest z hf;omega
 | succ f ih =>
  intro c r rest z hf hr hT
  have e1:Ji (Eb m) 1000000 (f+1)=Kg (Eb m) 1000000 (Ji (Eb m) 1000000 f):=rfl
  rw[e1]
  unfold Kg
  rw[VM,Ak]
  by_cases hlt:c < K
  ·have e : (List.range K).drop c = c :: (List.range K).drop (c + 1) := by
    rw[List.drop_eq_getElem_cons (by simpa using hlt),List.getElem_range]
   rw[e,List.flatMap_cons] at hT ⊢
   obtain⟨rest1,h1,h2⟩:=hP (pre++[c]) rest z hr (by simp;omega) (fun l hl=>hT l (List.mem_append_left _ hl))
   obtain⟨r',rest2,h3,h4⟩:=ih (c+1) c rest1 ((Fh K d (pre++[c])).foldl mx z) (by omega) h1 (fun l hl=>hT l (List.mem_append_right _ hl))
   refine⟨r',rest2,h3,?_⟩
   rw[List.foldl_append,←h4]
   rw[List.append_assoc,List.append_assoc,List.singleton_append,List.singleton_append,List.length_append,List.length_singleton] at h2
   have hlen:(pre++r::rest).length=N:=by simp;omega
   have hb1:an (Nat.blt pre.length N) true=true:=by rw[CF,Bool.and_true,blt_eq];exact decide_eq_true (by omega)
   have hb2:an (Nat.ble (0+pre.length*1+1) (len ((nI (pre++r::rest)).map I))) true=true:=by
    rw[CF,Bool.and_true,AV,List.length_map,Jh,hlen];exact Nat.ble_eq_true_of_le (by omega)
   have hb3:Dp (Nat.ble 2 (2*N+1)) (MQ ((nI (pre++c::rest)).map I))=true:=by
    rw[show Nat.ble 2 (2*N+1)=true from Nat.ble_eq_true_of_le (by omega)];rfl
   unfold lV wW wZ at h2
   rw[Gy hlt,Ak,Cx,Ac,hb1,Ak,hb2,Ak,Aab,VM,Ak,hb3,Ak,Ak,DC pre.length (by omega),h2]
   simp only[Ac,FW,Dj,EG,RL,BP,wW,UJ,WY,WZ,W9,Xa,Xb,TV,Xc,Ak,VM,DC c (by omega:c < 1000000)]
  ·rw[G9 hlt,AA]
   have e:(List.range K).drop c=[]:=List.drop_eq_nil_of_le (by simp;omega)
   rw[e]
   exact⟨r,rest,hr,rfl⟩
theorem Yo (N K:Nat) (hN5:N≤100) (hK:K≤100):∀ (d n:Nat),Dr N K (n+d+9) d:=by
 intro d
 induction d with
 | zero =>
  intro n pre rest z hr hN hT
  have:rest=[]:=List.eq_nil_of_length_eq_zero hr
  subst this
  have hN:pre.length=N:=by omega
  refine⟨[],rfl,?_⟩
  rw[List.append_nil,hN]
  exact xA N K pre z (n+0) hN (hT pre (by unfold Fh;simp))
 | succ d ih =>
  intro n pre rest z hr hN hT
  obtain⟨r,rest,rfl⟩:∃ r rest',rest=r::rest':=by
   cases rest with
   | nil=>simp at hr
   | cons a b=>exact⟨a,b,rfl⟩
  have hr:rest.length=d:=by simpa using hr
  rw[show n+(d+1)+9=n+d+9+1 by omega,Pq]
  have hi:Bd (Int.ofNat pre.length) (Int.ofNat N)=false:=by rw[Lr];simp only[Int.ofNat_eq_natCast];exact decide_eq_false (by omega)
  have go : ∀ c, c = Sd pre → ∃ rest' : List Nat, rest'.length = d + 1 ∧ Ir (Eb (n + d + 9)) 1000000 (Int.ofNat pre.length) (Int.ofNat c) (Int.ofNat N) N (2 * N + 1) (Int.ofNat z) (Int.ofNat K) ((nI (pre ++ r :: rest)).map I) =
   wZ N K ((Fh K (d+1) pre).foldl mx z) (pre++rest'):=by
   intro c hc
   unfold Fh at hT
   rw[←hc] at hT
   obtain⟨r',rest',h1,h2⟩:=Aac N K (n+d+9) d pre hN hN5 hK (ih n) 1000000 c r rest z (by omega) hr hT
   refine⟨r'::rest',by simp[h1],?_⟩
   unfold Ir
   rw[VM,Ak]
   unfold Fh
   rw[←hc]
   exact h2
  obtain⟨rest',g1,g2⟩:=go (Sd pre) rfl
  refine⟨rest',g1,?_⟩
  rw[←g2]
  unfold Jw
  rw[VM,Ak,hi,AA]
  unfold Kh
  rw[VM,Ak]
  cases hp:pre with
  | nil=>rfl
  | cons a t =>
   have hpos:0 < pre.length:=by rw[hp];simp
   rw[←hp]
   have hsub:Aj .i64 (Int.sub (Int.ofNat pre.length) 1)=Int.ofNat (pre.length - 1):=by
    have e:Int.sub (Int.ofNat pre.length) 1=Int.ofNat (pre.length - 1):=by show (pre.length:Int) - 1=((pre.length - 1:Nat):Int);omega
    rw[e]
    exact Oe _ (by show _≤((pre.length - 1:Nat):Int);omega) (by show ((pre.length - 1:Nat):Int)≤_;omega)
   have hb1:an (Nat.blt (pre.length - 1) N) true=true:=by rw[CF,Bool.and_true,blt_eq];exact decide_eq_true (by omega)
   have hg:AL ((nI (pre++r::rest)).map I) (0+(pre.length - 1)*1)=some (I (Int.ofNat (Sd pre))):=by
    rw[BZ,Nat.zero_add,Nat.mul_one]
    have h1:pre.length - 1 < (pre++r::rest).length:=by simp;omega
    rw[zH _ _ h1,List.getElem_append_left (by omega)]
    unfold Sd
    rw[List.getLast?_eq_getElem?,List.getElem?_eq_getElem (by omega)];rfl
   rw[show AY (0:Int) (Int.ofNat pre.length)=true from Gy hpos,Ak,hsub,Cx,Ac,hb1,Ak,hg,Ac,BP,Ac]
end Go.MnWM
set_option maxRecDepth 100000
set_option maxHeartbeats 4000000
namespace Go.MnWM
open Go Go.Sp Go.MnW Go.MdM Go.RgP
theorem FD (n N K W:Nat) (hN:N≤20) (hN1:1≤N) (hK:K≤100) (x y:Int) (hx:Aj .i64 (Int.add (1:Int) (Int.tmod (Aj .i64 x) (5:Int)))=Int.ofNat N) (hy:Aj .i64 (Int.add (1:Int) (Int.tmod (Aj .i64 y) (4:Int)))=Int.ofNat K)
 (h27:Eb (n+29) 27 [.int .i64 (Int.ofNat N),.int .i64 (Int.ofNat K)]=some (.tuple ⟨[.int .i64 (Int.ofNat W),.int .i64 (0:Int)]⟩)) (hk0:nt (Bd (Int.ofNat K) (0:Int))=true)
 (hw:nt (Bd (Int.ofNat W) (Aj .i64 (Int.sub (Int.ofNat N) (Aj .i64 (Int.tdiv (Aj .i64 (Int.sub (Aj .i64 (Int.add (Int.ofNat N) (Int.ofNat K))) (1:Int))) (Int.ofNat K))))))=false)
 (hz:AF ([.int .i64 (0:Int)]:List Value) N=(nI (List.replicate N 0)).map I) (hT:∀ l∈Fh K N [],(l,Dl l)∈Gw) (hD:(Fh K N []).foldl mx 0=W)
 (hr:HV (Eb (n+29)) 1000000 1000000 (Int.ofNat W) (Int.ofNat N) (0:Int) (Int.ofNat N) (Int.ofNat K) (Int.ofNat W) (Int.ofNat K) 0 0 0 0 ([]:List Value) ([]:List Value)=some (.bool true)) :
 Nc (Eb (n+29)) 1000000 x y=some (.bool true):=by
 obtain⟨rest',h1,h2⟩:=Yo N K (by omega) hK N (n+20 - N) [] (List.replicate N 0) 0 (by simp) (by simp) hT
 rw[show n+20 - N+N+9=n+29 by omega,hD,List.nil_append,List.nil_append] at h2
 have h2' : Eb (n + 29) 10280 [.int .i64 (0 : Int), .pointer (some ⟨1, 0, none⟩), .pointer (some ⟨2, 0, none⟩), .pointer (some ⟨3, 0, none⟩), .pointer (some ⟨4, 0, none⟩), .pointer (some ⟨5, 0, none⟩), .agg ⟨[.int .i64 (Int.ofNat N)]⟩, .agg ⟨[.slice (some ⟨6, 0, some 1⟩) N (2 * N + bb true 1 0)]⟩, .agg ⟨[.int .i64 (0 : Int)]⟩, .agg ⟨[.int .i64 (Int.ofNat K)]⟩,
  .agg ⟨[.func (.func 28) ⟨[]⟩ ⟨[.pointer (some ⟨1,0,none⟩),.pointer (some ⟨2,0,none⟩),.pointer (some ⟨3,0,none⟩),.pointer (some ⟨4,0,none⟩),.pointer (some ⟨5,0,none⟩)]⟩]⟩,.agg ⟨(nI (List.replicate N 0)).map I⟩] =
  some (.tuple ⟨[.tuple ⟨[]⟩, .agg ⟨[.int .i64 (Int.ofNat N)]⟩, .agg ⟨[.slice (some ⟨6, 0, some 1⟩) N (2 * N + 1)]⟩, .agg ⟨[.int .i64 (Int.ofNat W)]⟩, .agg ⟨[.int .i64 (Int.ofNat K)]⟩,
   .agg ⟨[.func (.func 28) ⟨[]⟩ ⟨[.pointer (some ⟨1,0,none⟩),.pointer (some ⟨2,0,none⟩),.pointer (some ⟨3,0,none⟩),.pointer (some ⟨4,0,none⟩),.pointer (some ⟨5,0,none⟩)]⟩]⟩,.agg ⟨(nI rest').map I⟩]⟩):=h2
 have b1:an (Nat.ble N N) (an (Nat.ble (N*8) 1099511627776) (an (Nat.ble N 1099511627776) true))=true:=by
  rw[CF,CF,CF,Nat.ble_eq_true_of_le (Nat.le_refl N),Nat.ble_eq_true_of_le (by omega:N*8≤1099511627776),Nat.ble_eq_true_of_le (by omega:N≤1099511627776)];rfl
 have b2:Dp (Nat.ble 2 (2*N+bb true 1 0)) (MQ ((nI (List.replicate N 0)).map I))=true:=by
  rw[show Nat.ble 2 (2*N+bb true 1 0)=true from Nat.ble_eq_true_of_le (by show 2≤2*N+1;omega)];rfl
 unfold Nc
 rw[hx,hy,h27,Ac,FW,Ac,Dj,Dj,EG,BP,Ac,BP,Ac,show nt (Bd (0:Int) 0)=false from rfl,AA,hk0,Ak,hw]
 unfold Wp
 rw[AA,Cx,Ac,b1,Ak,hz,VM,Ak,b2,Ak,Ak,h2']
 simp only[Ac,FW,Dj,EG,RL,BP,UJ,WY,WZ,W9,Xa,Xb,TV,Xc,Ak,VM]
 exact hr

theorem Aad:(Fh 1 1 []).foldl mx 0=0:=by decide
theorem Aae:∀ l∈Fh 1 1 [],(l,Dl l)∈Gw:=by decide
theorem Aaf (n:Nat):HV (Eb (n+29)) 1000000 1000000 (Int.ofNat 0) (Int.ofNat 1) (0:Int) (Int.ofNat 1) (Int.ofNat 1) (Int.ofNat 0) (Int.ofNat 1) 0 0 0 0 ([]:List Value) ([]:List Value)=some (.bool true):=by kernel_rfl
theorem Aag (n:Nat):Eb (n+29) 27 [.int .i64 (Int.ofNat 1),.int .i64 (Int.ofNat 1)]=some (.tuple ⟨[.int .i64 (Int.ofNat 0),.int .i64 (0:Int)]⟩):=by kernel_rfl
theorem Aah (n:Nat) (x y:Int) (hx:Aj .i64 (Int.add (1:Int) (Int.tmod (Aj .i64 x) (5:Int)))=Int.ofNat 1) (hy:Aj .i64 (Int.add (1:Int) (Int.tmod (Aj .i64 y) (4:Int)))=Int.ofNat 1):Nc (Eb (n+29)) 1000000 x y=some (.bool true):=
 FD n 1 1 0 (by decide) (by decide) (by decide) x y hx hy (Aag n) rfl (by kernel_rfl) rfl Aae Aad (Aaf n)

theorem Aai:(Fh 2 1 []).foldl mx 0=0:=by decide
theorem Aaj:∀ l∈Fh 2 1 [],(l,Dl l)∈Gw:=by decide
theorem Aak (n:Nat):HV (Eb (n+29)) 1000000 1000000 (Int.ofNat 0) (Int.ofNat 1) (0:Int) (Int.ofNat 1) (Int.ofNat 2) (Int.ofNat 0) (Int.ofNat 2) 0 0 0 0 ([]:List Value) ([]:List Value)=some (.bool true):=by kernel_rfl
theorem Aal (n:Nat):Eb (n+29) 27 [.int .i64 (Int.ofNat 1),.int .i64 (Int.ofNat 2)]=some (.tuple ⟨[.int .i64 (Int.ofNat 0),.int .i64 (0:Int)]⟩):=by kernel_rfl
theorem Aam (n:Nat) (x y:Int) (hx:Aj .i64 (Int.add (1:Int) (Int.tmod (Aj .i64 x) (5:Int)))=Int.ofNat 1) (hy:Aj .i64 (Int.add (1:Int) (Int.tmod (Aj .i64 y) (4:Int)))=Int.ofNat 2):Nc (Eb (n+29)) 1000000 x y=some (.bool true):=
 FD n 1 2 0 (by decide) (by decide) (by decide) x y hx hy (Aal n) rfl (by kernel_rfl) rfl Aaj Aai (Aak n)

theorem Aan:(Fh 3 1 []).foldl mx 0=0:=by decide
theorem Aao:∀ l∈Fh 3 1 [],(l,Dl l)∈Gw:=by decide
theorem Aap (n:Nat):HV (Eb (n+29)) 1000000 1000000 (Int.ofNat 0) (Int.ofNat 1) (0:Int) (Int.ofNat 1) (Int.ofNat 3) (Int.ofNat 0) (Int.ofNat 3) 0 0 0 0 ([]:List Value) ([]:List Value)=some (.bool true):=by kernel_rfl
theorem Aaq (n:Nat):Eb (n+29) 27 [.int .i64 (Int.ofNat 1),.int .i64 (Int.ofNat 3)]=some (.tuple ⟨[.int .i64 (Int.ofNat 0),.int .i64 (0:Int)]⟩):=by kernel_rfl
theorem Aar (n:Nat) (x y:Int) (hx:Aj .i64 (Int.add (1:Int) (Int.tmod (Aj .i64 x) (5:Int)))=Int.ofNat 1) (hy:Aj .i64 (Int.add (1:Int) (Int.tmod (Aj .i64 y) (4:Int)))=Int.ofNat 3):Nc (Eb (n+29)) 1000000 x y=some (.bool true):=
 FD n 1 3 0 (by decide) (by decide) (by decide) x y hx hy (Aaq n) rfl (by kernel_rfl) rfl Aao Aan (Aap n)

theorem Aas:(Fh 4 1 []).foldl mx 0=0:=by decide
theorem Aat:∀ l∈Fh 4 1 [],(l,Dl l)∈Gw:=by decide
theorem Aau (n:Nat):HV (Eb (n+29)) 1000000 1000000 (Int.ofNat 0) (Int.ofNat 1) (0:Int) (Int.ofNat 1) (Int.ofNat 4) (Int.ofNat 0) (Int.ofNat 4) 0 0 0 0 ([]:List Value) ([]:List Value)=some (.bool true):=by kernel_rfl
theorem Aav (n:Nat):Eb (n+29) 27 [.int .i64 (Int.ofNat 1),.int .i64 (Int.ofNat 4)]=some (.tuple ⟨[.int .i64 (Int.ofNat 0),.int .i64 (0:Int)]⟩):=by kernel_rfl
theorem Aaw (n:Nat) (x y:Int) (hx:Aj .i64 (Int.add (1:Int) (Int.tmod (Aj .i64 x) (5:Int)))=Int.ofNat 1) (hy:Aj .i64 (Int.add (1:Int) (Int.tmod (Aj .i64 y) (4:Int)))=Int.ofNat 4):Nc (Eb (n+29)) 1000000 x y=some (.bool true):=
 FD n 1 4 0 (by decide) (by decide) (by decide) x y hx hy (Aav n) rfl (by kernel_rfl) rfl Aat Aas (Aau n)

theorem Aax:(Fh 1 2 []).foldl mx 0=0:=by decide
theorem Aay:∀ l∈Fh 1 2 [],(l,Dl l)∈Gw:=by decide
theorem Aaz (n:Nat):HV (Eb (n+29)) 1000000 1000000 (Int.ofNat 0) (Int.ofNat 2) (0:Int) (Int.ofNat 2) (Int.ofNat 1) (Int.ofNat 0) (Int.ofNat 1) 0 0 0 0 ([]:List Value) ([]:List Value)=some (.bool true):=by kernel_rfl
theorem AaA (n:Nat):Eb (n+29) 27 [.int .i64 (Int.ofNat 2),.int .i64 (Int.ofNat 1)]=some (.tuple ⟨[.int .i64 (Int.ofNat 0),.int .i64 (0:Int)]⟩):=by kernel_rfl
theorem AaB (n:Nat) (x y:Int) (hx:Aj .i64 (Int.add (1:Int) (Int.tmod (Aj .i64 x) (5:Int)))=Int.ofNat 2) (hy:Aj .i64 (Int.add (1:Int) (Int.tmod (Aj .i64 y) (4:Int)))=Int.ofNat 1):Nc (Eb (n+29)) 1000000 x y=some (.bool true):=
 FD n 2 1 0 (by decide) (by decide) (by decide) x y hx hy (AaA n) rfl (by kernel_rfl) rfl Aay Aax (Aaz n)

theorem AaC:(Fh 2 2 []).foldl mx 0=1:=by decide
theorem AaD:∀ l∈Fh 2 2 [],(l,Dl l)∈Gw:=by decide
theorem AaE (n:Nat):HV (Eb (n+29)) 1000000 1000000 (Int.ofNat 1) (Int.ofNat 2) (0:Int) (Int.ofNat 2) (Int.ofNat 2) (Int.ofNat 1) (Int.ofNat 2) 0 0 0 0 ([]:List Value) ([]:List Value)=some (.bool true):=by kernel_rfl
theorem AaF (n:Nat):Eb (n+29) 27 [.int .i64 (Int.ofNat 2),.int .i64 (Int.ofNat 2)]=some (.tuple ⟨[.int .i64 (Int.ofNat 1),.int .i64 (0:Int)]⟩):=by kernel_rfl
theorem AaG (n:Nat) (x y:Int) (hx:Aj .i64 (Int.add (1:Int) (Int.tmod (Aj .i64 x) (5:Int)))=Int.ofNat 2) (hy:Aj .i64 (Int.add (1:Int) (Int.tmod (Aj .i64 y) (4:Int)))=Int.ofNat 2):Nc (Eb (n+29)) 1000000 x y=some (.bool true):=
 FD n 2 2 1 (by decide) (by decide) (by decide) x y hx hy (AaF n) rfl (by kernel_rfl) rfl AaD AaC (AaE n)

theorem AaH:(Fh 3 2 []).foldl mx 0=1:=by decide
theorem AaI:∀ l∈Fh 3 2 [],(l,Dl l)∈Gw:=by decide
theorem AaJ (n:Nat):HV (Eb (n+29)) 1000000 1000000 (Int.ofNat 1) (Int.ofNat 2) (0:Int) (Int.ofNat 2) (Int.ofNat 3) (Int.ofNat 1) (Int.ofNat 3) 0 0 0 0 ([]:List Value) ([]:List Value)=some (.bool true):=by kernel_rfl
theorem AaK (n:Nat):Eb (n+29) 27 [.int .i64 (Int.ofNat 2),.int .i64 (Int.ofNat 3)]=some (.tuple ⟨[.int .i64 (Int.ofNat 1),.int .i64 (0:Int)]⟩):=by kernel_rfl
theorem AaL (n:Nat) (x y:Int) (hx:Aj .i64 (Int.add (1:Int) (Int.tmod (Aj .i64 x) (5:Int)))=Int.ofNat 2) (hy:Aj .i64 (Int.add (1:Int) (Int.tmod (Aj .i64 y) (4:Int)))=Int.ofNat 3):Nc (Eb (n+29)) 1000000 x y=some (.bool true):=
 FD n 2 3 1 (by decide) (by decide) (by decide) x y hx hy (AaK n) rfl (by kernel_rfl) rfl AaI AaH (AaJ n)

theorem AaM:(Fh 4 2 []).foldl mx 0=1:=by decide
theorem AaN:∀ l∈Fh 4 2 [],(l,Dl l)∈Gw:=by decide
theorem AaO (n:Nat):HV (Eb (n+29)) 1000000 1000000 (Int.ofNat 1) (Int.ofNat 2) (0:Int) (Int.ofNat 2) (Int.ofNat 4) (Int.ofNat 1) (Int.ofNat 4) 0 0 0 0 ([]:List Value) ([]:List Value)=some (.bool true):=by kernel_rfl
theorem AaP (n:Nat):Eb (n+29) 27 [.int .i64 (Int.ofNat 2),.int .i64 (Int.ofNat 4)]=some (.tuple ⟨[.int .i64 (Int.ofNat 1),.int .i64 (0:Int)]⟩):=by kernel_rfl
theorem AaQ (n:Nat) (x y:Int) (hx:Aj .i64 (Int.add (1:Int) (Int.tmod (Aj .i64 x) (5:Int)))=Int.ofNat 2) (hy:Aj .i64 (Int.add (1:Int) (Int.tmod (Aj .i64 y) (4:Int)))=Int.ofNat 4):Nc (Eb (n+29)) 1000000 x y=some (.bool true):=
 FD n 2 4 1 (by decide) (by decide) (by decide) x y hx hy (AaP n) rfl (by kernel_rfl) rfl AaN AaM (AaO n)

theorem AaR:(Fh 1 3 []).foldl mx 0=0:=by decide
theorem AaS:∀ l∈Fh 1 3 [],(l,Dl l)∈Gw:=by decide
theorem AaT (n:Nat):HV (Eb (n+29)) 1000000 1000000 (Int.ofNat 0) (Int.ofNat 3) (0:Int) (Int.ofNat 3) (Int.ofNat 1) (Int.ofNat 0) (Int.ofNat 1) 0 0 0 0 ([]:List Value) ([]:List Value)=some (.bool true):=by kernel_rfl
theorem AaZ (n:Nat):Eb (n+29) 27 [.int .i64 (Int.ofNat 3),.int .i64 (Int.ofNat 1)]=some (.tuple ⟨[.int .i64 (Int.ofNat 0),.int .i64 (0:Int)]⟩):=by kernel_rfl
theorem Aa0 (n:Nat) (x y:Int) (hx:Aj .i64 (Int.add (1:Int) (Int.tmod (Aj .i64 x) (5:Int)))=Int.ofNat 3) (hy:Aj .i64 (Int.add (1:Int) (Int.tmod (Aj .i64 y) (4:Int)))=Int.ofNat 1):Nc (Eb (n+29)) 1000000 x y=some (.bool true):=
 FD n 3 1 0 (by decide) (by decide) (by decide) x y hx hy (AaZ n) rfl (by kernel_rfl) rfl AaS AaR (AaT n)

theorem Aa1:(Fh 2 3 []).foldl mx 0=1:=by decide
theorem Aa2:∀ l∈Fh 2 3 [],(l,Dl l)∈Gw:=by decide
theorem Aa3 (n:Nat):HV (Eb (n+29)) 1000000 1000000 (Int.ofNat 1) (Int.ofNat 3) (0:Int) (Int.ofNat 3) (Int.ofNat 2) (Int.ofNat 1) (Int.ofNat 2) 0 0 0 0 ([]:List Value) ([]:List Value)=some (.bool true):=by kernel_rfl
theorem Aa4 (n:Nat):Eb (n+29) 27 [.int .i64 (Int.ofNat 3),.int .i64 (Int.ofNat 2)]=some (.tuple ⟨[.int .i64 (Int.ofNat 1),.int .i64 (0:Int)]⟩):=by kernel_rfl
theorem Aa5 (n:Nat) (x y:Int) (hx:Aj .i64 (Int.add (1:Int) (Int.tmod (Aj .i64 x) (5:Int)))=Int.ofNat 3) (hy:Aj .i64 (Int.add (1:Int) (Int.tmod (Aj .i64 y) (4:Int)))=Int.ofNat 2):Nc (Eb (n+29)) 1000000 x y=some (.bool true):=
 FD n 3 2 1 (by decide) (by decide) (by decide) x y hx hy (Aa4 n) rfl (by kernel_rfl) rfl Aa2 Aa1 (Aa3 n)

theorem Aa6:(Fh 3 3 []).foldl mx 0=2:=by decide
theorem Aa7:∀ l∈Fh 3 3 [],(l,Dl l)∈Gw:=by decide
theorem Aa8 (n:Nat):HV (Eb (n+29)) 1000000 1000000 (Int.ofNat 2) (Int.ofNat 3) (0:Int) (Int.ofNat 3) (Int.ofNat 3) (Int.ofNat 2) (Int.ofNat 3) 0 0 0 0 ([]:List Value) ([]:List Value)=some (.bool true):=by kernel_rfl
theorem Aa9 (n:Nat):Eb (n+29) 27 [.int .i64 (Int.ofNat 3),.int .i64 (Int.ofNat 3)]=some (.tuple ⟨[.int .i64 (Int.ofNat 2),.int .i64 (0:Int)]⟩):=by kernel_rfl
theorem Aba (n:Nat) (x y:Int) (hx:Aj .i64 (Int.add (1:Int) (Int.tmod (Aj .i64 x) (5:Int)))=Int.ofNat 3) (hy:Aj .i64 (Int.add (1:Int) (Int.tmod (Aj .i64 y) (4:Int)))=Int.ofNat 3):Nc (Eb (n+29)) 1000000 x y=some (.bool true):=
 FD n 3 3 2 (by decide) (by decide) (by decide) x y hx hy (Aa9 n) rfl (by kernel_rfl) rfl Aa7 Aa6 (Aa8 n)

theorem Abb:(Fh 4 3 []).foldl mx 0=2:=by decide
theorem Abc:∀ l∈Fh 4 3 [],(l,Dl l)∈Gw:=by decide
theorem Abd (n:Nat):HV (Eb (n+29)) 1000000 1000000 (Int.ofNat 2) (Int.ofNat 3) (0:Int) (Int.ofNat 3) (Int.ofNat 4) (Int.ofNat 2) (Int.ofNat 4) 0 0 0 0 ([]:List Value) ([]:List Value)=some (.bool true):=by kernel_rfl
theorem Abe (n:Nat):Eb (n+29) 27 [.int .i64 (Int.ofNat 3),.int .i64 (Int.ofNat 4)]=some (.tuple ⟨[.int .i64 (Int.ofNat 2),.int .i64 (0:Int)]⟩):=by kernel_rfl
theorem Abf (n:Nat) (x y:Int) (hx:Aj .i64 (Int.add (1:Int) (Int.tmod (Aj .i64 x) (5:Int)))=Int.ofNat 3) (hy:Aj .i64 (Int.add (1:Int) (Int.tmod (Aj .i64 y) (4:Int)))=Int.ofNat 4):Nc (Eb (n+29)) 1000000 x y=some (.bool true):=
 FD n 3 4 2 (by decide) (by decide) (by decide) x y hx hy (Abe n) rfl (by kernel_rfl) rfl Abc Abb (Abd n)

theorem Abg:(Fh 1 4 []).foldl mx 0=0:=by decide
theorem Abh:∀ l∈Fh 1 4 [],(l,Dl l)∈Gw:=by decide
theorem Abi (n:Nat):HV (Eb (n+29)) 1000000 1000000 (Int.ofNat 0) (Int.ofNat 4) (0:Int) (Int.ofNat 4) (Int.ofNat 1) (Int.ofNat 0) (Int.ofNat 1) 0 0 0 0 ([]:List Value) ([]:List Value)=some (.bool true):=by kernel_rfl
theorem Abj (n:Nat):Eb (n+29) 27 [.int .i64 (Int.ofNat 4),.int .i64 (Int.ofNat 1)]=some (.tuple ⟨[.int .i64 (Int.ofNat 0),.int .i64 (0:Int)]⟩):=by kernel_rfl
theorem Abk (n:Nat) (x y:Int) (hx:Aj .i64 (Int.add (1:Int) (Int.tmod (Aj .i64 x) (5:Int)))=Int.ofNat 4) (hy:Aj .i64 (Int.add (1:Int) (Int.tmod (Aj .i64 y) (4:Int)))=Int.ofNat 1):Nc (Eb (n+29)) 1000000 x y=some (.bool true):=
 FD n 4 1 0 (by decide) (by decide) (by decide) x y hx hy (Abj n) rfl (by kernel_rfl) rfl Abh Abg (Abi n)

theorem Abl:(Fh 2 4 []).foldl mx 0=2:=by decide
theorem Abm:∀ l∈Fh 2 4 [],(l,Dl l)∈Gw:=by decide
theorem Abn (n:Nat):HV (Eb (n+29)) 1000000 1000000 (Int.ofNat 2) (Int.ofNat 4) (0:Int) (Int.ofNat 4) (Int.ofNat 2) (Int.ofNat 2) (Int.ofNat 2) 0 0 0 0 ([]:List Value) ([]:List Value)=some (.bool true):=by kernel_rfl
theorem Abo (n:Nat):Eb (n+29) 27 [.int .i64 (Int.ofNat 4),.int .i64 (Int.ofNat 2)]=some (.tuple ⟨[.int .i64 (Int.ofNat 2),.int .i64 (0:Int)]⟩):=by kernel_rfl
theorem Abp (n:Nat) (x y:Int) (hx:Aj .i64 (Int.add (1:Int) (Int.tmod (Aj .i64 x) (5:Int)))=Int.ofNat 4) (hy:Aj .i64 (Int.add (1:Int) (Int.tmod (Aj .i64 y) (4:Int)))=Int.ofNat 2):Nc (Eb (n+29)) 1000000 x y=some (.bool true):=
 FD n 4 2 2 (by decide) (by decide) (by decide) x y hx hy (Abo n) rfl (by kernel_rfl) rfl Abm Abl (Abn n)

theorem Abq:(Fh 3 4 []).foldl mx 0=2:=by decide
theorem Abr:∀ l∈Fh 3 4 [],(l,Dl l)∈Gw:=by decide
theorem Abs (n:Nat):HV (Eb (n+29)) 1000000 1000000 (Int.ofNat 2) (Int.ofNat 4) (0:Int) (Int.ofNat 4) (Int.ofNat 3) (Int.ofNat 2) (Int.ofNat 3) 0 0 0 0 ([]:List Value) ([]:List Value)=some (.bool true):=by kernel_rfl
theorem Abt (n:Nat):Eb (n+29) 27 [.int .i64 (Int.ofNat 4),.int .i64 (Int.ofNat 3)]=some (.tuple ⟨[.int .i64 (Int.ofNat 2),.int .i64 (0:Int)]⟩):=by kernel_rfl
theorem Abu (n:Nat) (x y:Int) (hx:Aj .i64 (Int.add (1:Int) (Int.tmod (Aj .i64 x) (5:Int)))=Int.ofNat 4) (hy:Aj .i64 (Int.add (1:Int) (Int.tmod (Aj .i64 y) (4:Int)))=Int.ofNat 3):Nc (Eb (n+29)) 1000000 x y=some (.bool true):=
 FD n 4 3 2 (by decide) (by decide) (by decide) x y hx hy (Abt n) rfl (by kernel_rfl) rfl Abr Abq (Abs n)

theorem Abv:(Fh 4 4 []).foldl mx 0=3:=by decide
theorem Abw:∀ l∈Fh 4 4 [],(l,Dl l)∈Gw:=by decide
theorem Abx (n:Nat):HV (Eb (n+29)) 1000000 1000000 (Int.ofNat 3) (Int.ofNat 4) (0:Int) (Int.ofNat 4) (Int.ofNat 4) (Int.ofNat 3) (Int.ofNat 4) 0 0 0 0 ([]:List Value) ([]:List Value)=some (.bool true):=by kernel_rfl
theorem Aby (n:Nat):Eb (n+29) 27 [.int .i64 (Int.ofNat 4),.int .i64 (Int.ofNat 4)]=some (.tuple ⟨[.int .i64 (Int.ofNat 3),.int .i64 (0:Int)]⟩):=by kernel_rfl
theorem Abz (n:Nat) (x y:Int) (hx:Aj .i64 (Int.add (1:Int) (Int.tmod (Aj .i64 x) (5:Int)))=Int.ofNat 4) (hy:Aj .i64 (Int.add (1:Int) (Int.tmod (Aj .i64 y) (4:Int)))=Int.ofNat 4):Nc (Eb (n+29)) 1000000 x y=some (.bool true):=
 FD n 4 4 3 (by decide) (by decide) (by decide) x y hx hy (Aby n) rfl (by kernel_rfl) rfl Abw Abv (Abx n)

theorem AbA:(Fh 1 5 []).foldl mx 0=0:=by decide
theorem AbB:∀ l∈Fh 1 5 [],(l,Dl l)∈Gw:=by decide
theorem AbC (n:Nat):HV (Eb (n+29)) 1000000 1000000 (Int.ofNat 0) (Int.ofNat 5) (0:Int) (Int.ofNat 5) (Int.ofNat 1) (Int.ofNat 0) (Int.ofNat 1) 0 0 0 0 ([]:List Value) ([]:List Value)=some (.bool true):=by kernel_rfl
theorem AbD (n:Nat):Eb (n+29) 27 [.int .i64 (Int.ofNat 5),.int .i64 (Int.ofNat 1)]=some (.tuple ⟨[.int .i64 (Int.ofNat 0),.int .i64 (0:Int)]⟩):=by kernel_rfl
theorem AbE (n:Nat) (x y:Int) (hx:Aj .i64 (Int.add (1:Int) (Int.tmod (Aj .i64 x) (5:Int)))=Int.ofNat 5) (hy:Aj .i64 (Int.add (1:Int) (Int.tmod (Aj .i64 y) (4:Int)))=Int.ofNat 1):Nc (Eb (n+29)) 1000000 x y=some (.bool true):=
 FD n 5 1 0 (by decide) (by decide) (by decide) x y hx hy (AbD n) rfl (by kernel_rfl) rfl AbB AbA (AbC n)

theorem AbF:(Fh 2 5 []).foldl mx 0=2:=by decide
theorem AbG:∀ l∈Fh 2 5 [],(l,Dl l)∈Gw:=by decide
theorem AbH (n:Nat):HV (Eb (n+29)) 1000000 1000000 (Int.ofNat 2) (Int.ofNat 5) (0:Int) (Int.ofNat 5) (Int.ofNat 2) (Int.ofNat 2) (Int.ofNat 2) 0 0 0 0 ([]:List Value) ([]:List Value)=some (.bool true):=by kernel_rfl
theorem AbP (n:Nat):Eb (n+29) 27 [.int .i64 (Int.ofNat 5),.int .i64 (Int.ofNat 2)]=some (.tuple ⟨[.int .i64 (Int.ofNat 2),.int .i64 (0:Int)]⟩):=by kernel_rfl
theorem AbQ (n:Nat) (x y:Int) (hx:Aj .i64 (Int.add (1:Int) (Int.tmod (Aj .i64 x) (5:Int)))=Int.ofNat 5) (hy:Aj .i64 (Int.add (1:Int) (Int.tmod (Aj .i64 y) (4:Int)))=Int.ofNat 2):Nc (Eb (n+29)) 1000000 x y=some (.bool true):=
 FD n 5 2 2 (by decide) (by decide) (by decide) x y hx hy (AbP n) rfl (by kernel_rfl) rfl AbG AbF (AbH n)

theorem AbR:(Fh 3 5 []).foldl mx 0=3:=by decide
theorem AbS:∀ l∈Fh 3 5 [],(l,Dl l)∈Gw:=by decide
theorem Ab0 (n:Nat):HV (Eb (n+29)) 1000000 1000000 (Int.ofNat 3) (Int.ofNat 5) (0:Int) (Int.ofNat 5) (Int.ofNat 3) (Int.ofNat 3) (Int.ofNat 3) 0 0 0 0 ([]:List Value) ([]:List Value)=some (.bool true):=by kernel_rfl
theorem Ab4 (n:Nat):Eb (n+29) 27 [.int .i64 (Int.ofNat 5),.int .i64 (Int.ofNat 3)]=some (.tuple ⟨[.int .i64 (Int.ofNat 3),.int .i64 (0:Int)]⟩):=by kernel_rfl
theorem Ab8 (n:Nat) (x y:Int) (hx:Aj .i64 (Int.add (1:Int) (Int.tmod (Aj .i64 x) (5:Int)))=Int.ofNat 5) (hy:Aj .i64 (Int.add (1:Int) (Int.tmod (Aj .i64 y) (4:Int)))=Int.ofNat 3):Nc (Eb (n+29)) 1000000 x y=some (.bool true):=
 FD n 5 3 3 (by decide) (by decide) (by decide) x y hx hy (Ab4 n) rfl (by kernel_rfl) rfl AbS AbR (Ab0 n)

theorem Ab9:(Fh 4 5 []).foldl mx 0=3:=by decide
theorem Aca:∀ l∈Fh 4 5 [],(l,Dl l)∈Gw:=by decide
theorem Acb (n:Nat):HV (Eb (n+29)) 1000000 1000000 (Int.ofNat 3) (Int.ofNat 5) (0:Int) (Int.ofNat 5) (Int.ofNat 4) (Int.ofNat 3) (Int.ofNat 4) 0 0 0 0 ([]:List Value) ([]:List Value)=some (.bool true):=by kernel_rfl
theorem Acc (n:Nat):Eb (n+29) 27 [.int .i64 (Int.ofNat 5),.int .i64 (Int.ofNat 4)]=some (.tuple ⟨[.int .i64 (Int.ofNat 3),.int .i64 (0:Int)]⟩):=by kernel_rfl
theorem Acd (n:Nat) (x y:Int) (hx:Aj .i64 (Int.add (1:Int) (Int.tmod (Aj .i64 x) (5:Int)))=Int.ofNat 5) (hy:Aj .i64 (Int.add (1:Int) (Int.tmod (Aj .i64 y) (4:Int)))=Int.ofNat 4):Nc (Eb (n+29)) 1000000 x y=some (.bool true):=
 FD n 5 4 3 (by decide) (by decide) (by decide) x y hx hy (Acc n) rfl (by kernel_rfl) rfl Aca Ab9 (Acb n)

theorem tm (M:Nat) (hM:0 < M) (hM2:M < 100) (x:Int) (h0:0≤x) (h1:x < 256):∃ k:Nat,k < M∧Aj .i64 (Int.add (1:Int) (Int.tmod (Aj .i64 x) (Int.ofNat M)))=Int.ofNat (k+1):=by
 have e:Aj .i64 x=x:=Oe x (by omega) (by omega)
 refine⟨x.toNat % M,Nat.mod_lt _ hM,?_⟩
 rw[e]
 have hx:x=((x.toNat:Nat):Int):=by omega
 have e2:Int.tmod x (Int.ofNat M)=((x.toNat % M:Nat):Int):=by
  rw[hx];rfl
 rw[e2]
 have hl:x.toNat % M < M:=Nat.mod_lt _ hM
 have e3:Int.add (1:Int) ((x.toNat % M:Nat):Int)=Int.ofNat (x.toNat % M+1):=by show (1:Int)+((x.toNat % M:Nat):Int)=((x.toNat % M+1:Nat):Int);omega
 rw[e3]
 exact Oe _ (by show _≤((x.toNat % M+1:Nat):Int);omega) (by show ((x.toNat % M+1:Nat):Int)≤_;omega)
theorem VL (n:Nat) (x y:Int) (hx0:0≤x) (hx1:x < 256) (hy0:0≤y) (hy1:y < 256):Eb (n+30) 6 [.int .u8 x,.int .u8 y]=some (.bool true):=by
 obtain⟨a,ha,ea⟩:=tm 5 (by decide) (by decide) x hx0 hx1
 obtain⟨b,hb,eb⟩:=tm 4 (by decide) (by decide) y hy0 hy1
 have e0:Eb (n+30) 6 [.int .u8 x,.int .u8 y]=Nc (Eb (n+29)) 1000000 x y:=by kernel_rfl
 rw[e0]
 have hA:a=0∨a=1∨a=2∨a=3∨a=4:=by omega
 have hB:b=0∨b=1∨b=2∨b=3:=by omega
 rcases hA with rfl | rfl | rfl | rfl | rfl <;> rcases hB with rfl | rfl | rfl | rfl

 ·exact Aah n x y ea eb
 ·exact Aam n x y ea eb
 ·exact Aar n x y ea eb
 ·exact Aaw n x y ea eb
 ·exact AaB n x y ea eb
 ·exact AaG n x y ea eb
 ·exact AaL n x y ea eb
 ·exact AaQ n x y ea eb
 ·exact Aa0 n x y ea eb
 ·exact Aa5 n x y ea eb
 ·exact Aba n x y ea eb
 ·exact Abf n x y ea eb
 ·exact Abk n x y ea eb
 ·exact Abp n x y ea eb
 ·exact Abu n x y ea eb
 ·exact Abz n x y ea eb
 ·exact AbE n x y ea eb
 ·exact AbQ n x y ea eb
 ·exact Ab8 n x y ea eb
 ·exact Acd n x y ea eb
theorem wfU {n:Int} (h:(Lit.int .u8 n).wf=true):0≤n∧n < 256:=by
 simp only[Lit.wf,Bool.and_eq_true,decide_eq_true_eq] at h
 have h1:(0:Int)≤n:=h.1
 have h2:n≤(255:Int):=h.2
 omega

end Go.MnWM
