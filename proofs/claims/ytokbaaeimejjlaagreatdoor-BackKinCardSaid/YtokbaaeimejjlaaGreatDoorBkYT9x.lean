/- Made from wip. -/
import Derived.Test.YtokbaaeimejjlaaGreatDoorBkYT7x
import Derived.Test.YtokbaaeimejjlaaGreatDoorBkY7x

set_option maxRecDepth 100000
set_option maxHeartbeats 4000000
namespace Go.BkQ
open Go Go.Sp Go.BkYM
theorem iU (off:Nat) (cs:List Value):Pv (Cv off cs) = some ⟨off,cs⟩:=rfl
theorem NA {α:Type} (a:α):isS (some a) = true:=rfl
theorem p53 (k:Nat) (args:List Value):AQ (k + 1) 53 args = m53 (AQ k) L args:=by kernel_rfl
theorem qR (l:List Int):Aq (l.length * 1) (l.map I) = l.map I:=by rw [Cg,Nat.mul_one];exact List.take_of_length_le (by simp)
theorem AbF (l:List Int):Aq ((0 + l.length) * 1) (Am 0 (l.map I)) = l.map I:=by rw [Nat.zero_add,Bz,List.drop_zero,qR]
theorem YA (n M f g : Nat) {r c k : Nat} {us : List Nat} {x : List Int} (hg : (r, c, us) ∈ Ca) (hx : x.length = r * c) : ∀ (d w i fb : Nat) (b : List Int), i + d = us.length → d < w → b.length = r * c →
 OO (AQ (n + 3)) M w (sl g x) (sl fb b) (.ofNat i) (.ofNat r) (.ofNat c) (.ofNat k) ⟨us.length,f,IB us⟩ = some (S 0 (Gw b (BB r c x (us.drop i))))
 | _,0,_,_,_,_,h,_=>by omega
 | 0, w + 1, i, fb, b, hd, _, hb => by
  have hp:=Cz hg
  have hrc:1≤r * c:=Nat.mul_le_mul hp.r1 hp.c1
  have hrc2:r * c≤16:=Nat.mul_le_mul hp.r4 hp.c4
  show OM (AQ (n + 3)) M (OO (AQ (n + 3)) M w) (sl g x) (sl fb b) (.ofNat i) (.ofNat r) (.ofNat c) (.ofNat k) ⟨us.length,f,IB us⟩ = _
  have hz:Nat.beq b.length 0 = false:=by
   cases e:Nat.beq b.length 0 with
   | false=>rfl
   | true=>have:=Nat.eq_of_beq_eq_true e;omega
  have hr:EQ (0 + b.length) 8 = true:=Nat.ble_eq_true_of_le (by omega)
  have hfit:an (Nat.ble (0 + (0 + b.length) * 1) (len (b.map I))) (Au Ah (b.map I)) = true:=by
   rw [Eb,AV,List.length_map,show Nat.ble (0 + (0 + b.length) * 1) b.length = true from Nat.ble_eq_true_of_le (by omega)];rfl
  unfold OM Um
  simp only [I4,GX,Fb (show ¬ i < us.length by omega),AA,hz,hr,qR,Eb,AbF,Ak]
  rw [←Eb b,hfit,Ak,List.drop_eq_nil_of_le (by omega),Nat.zero_add];rfl
 | d + 1, w + 1, i, fb, b, hd, hw, hb => by
  have hp:=Cz hg
  have hl8:=hp.len8
  have hrc:r * c≤16:=Nat.mul_le_mul hp.r4 hp.c4
  have hi:i < us.length:=by omega
  have hmem:us[i] ∈ us:=List.getElem_mem hi
  have hget:AL (IB us) (i * 1) = some (I (.ofNat us[i])):=by
   rw [BZ,Nat.mul_one,show IB us = us.map fun n=>IV (Int.ofNat n) from Cc _ _,List.getElem?_map,List.getElem?_eq_getElem hi];rfl
  have htu:=Pj n g f (k:=k) hg hmem hx
  have htu:AQ (n + 3) 10480 [.agg ⟨[I (.ofNat r),I (.ofNat c),I (.ofNat k),Sl.v 1 ⟨us.length,f,IB us⟩]⟩,Sl.v 1 (sl g x),I (.ofNat us[i])] = some (.tuple ⟨[Sl.v 1 (sl 0 (pick x (cellL r c us[i])))]⟩):=by rw [Gt,AV] at htu;exact htu
  have hpl:(pick x (cellL r c us[i])).length = r * c:=by rw [Ji,(hp.row us[i] hmem).2.1]
  have hc:=QH (n + 2) 0 fb (a:=pick x (cellL r c us[i])) (b:=b) (by rw [hpl,hb]) (by omega)
  have hc:AQ (n + 3) 54 [Sl.v 1 (sl 0 (pick x (cellL r c us[i]))),Sl.v 1 (sl fb b)] = some (.bool (G5 (pick x (cellL r c us[i])) b)):=hc
  have ih:=fun fb b hb=>YA n M f g (k:=k) hg hx d w (i + 1) fb b (by omega) (by omega) hb
  show OM (AQ (n + 3)) M (OO (AQ (n + 3)) M w) (sl g x) (sl fb b) (.ofNat i) (.ofNat r) (.ofNat c) (.ofNat k) ⟨us.length,f,IB us⟩ = _
  unfold OM Un
  simp only [FK hi,Ak,Cx,Ac,Dy hi,hget,BP,htu,FW,Dj,EG,Dc,hc,BU,DC i (by omega)]
  rw [ih 0 _ hpl,ih fb b hb,List.drop_eq_getElem_cons hi]
  show bb (G5 (pick x (cellL r c us[i])) b) (some (S 0 (Gw (pick x (cellL r c us[i])) (BB r c x (us.drop (i + 1)))))) (some (S 0 (Gw b (BB r c x (us.drop (i + 1)))))) = some (S 0 (Gw (if G5 (pick x (cellL r c us[i])) b then pick x (cellL r c us[i]) else b) (BB r c x (us.drop (i + 1)))))
  cases G5 (pick x (cellL r c us[i])) b <;> rfl
theorem Xg (n f g:Nat) {r c k:Nat} {us:List Nat} {x:List Int} (hg:(r,c,us) ∈ Ca) (hx:x.length = r * c):AQ (n + 4) 53 [Gt r c k f us,S g x] = some (S 0 (Gw x (BB r c x us))):=by
 rw [p53]
 have h:=YA n L f g (k:=k) hg hx us.length L 0 g x (by omega) (by have:=(Cz hg).len8;show _ < 1000000;omega) hx
 rw [←AV] at h
 exact h
theorem iV:Au (fun p:Nat×Nat×List Nat=>UI p.2.2 0) Ca = true:=by kernel_rfl
theorem Ps {r c:Nat} {us:List Nat} (hg:(r,c,us) ∈ Ca):0 ∈ us:=by
 have h:=iV
 rw [Bh,List.all_eq_true] at h
 exact UJ.1 (h _ hg)
theorem cell0 {r c i:Nat} (hc:1≤c):FM r c 0 i = i:=by
 obtain ⟨d,rfl⟩:∃ d,c = d + 1:=⟨c - 1,by omega⟩
 show i / (d + 1) * (d + 1) + i % (d + 1) = i
 exact Nat.div_add_mod' i (d + 1)
theorem Ah9 {r c:Nat} {x:List Int} (hc:1≤c) (hx:x.length = r * c):pick x (cellL r c 0) = x:=by
 apply List.ext_getElem
 ·rw [Ji,K4];simp [hx]
 ·intro i h1 h2
  simp only [pick,K4,List.getElem_map,List.getElem_range]
  rw [cell0 hc]
  simp [List.getD_eq_getElem?_getD,h2]
theorem iW {r c:Nat} {us:List Nat} {x:List Int} (hg:(r,c,us) ∈ Ca) (hx:x.length = r * c):x ∈ BB r c x us:=
 List.mem_map.2 ⟨0,Ps hg,Ah9 (Cz hg).c1 hx⟩
noncomputable def MU (r c:Nat) (x:List Int) (us:List Nat):List (List Int):=MS (DR (BB r c x us))
theorem iX {r c:Nat} {us:List Nat} {x:List Int} (hg:(r,c,us) ∈ Ca) (hx:x.length = r * c):∃ t,MU r c x us = Gw x (BB r c x us) :: t:=by
 have he:C8 (r * c) (BB r c x us):=Gv hg fun t h=>h
 obtain ⟨h1,h2⟩:=QP he
 have hself:=iW hg hx
 have heb:C8 (r * c) (x :: BB r c x us):=fun y hy=>by
  rcases List.mem_cons.1 hy with rfl | hy
  ·exact hx
  ·exact he y hy
 have hm:Gw x (BB r c x us) ∈ BB r c x us:=by
  rcases List.mem_cons.1 (K9 (r:=BB r c x us) (b:=x)) with h | h
  ·rw [h];exact hself
  ·exact h
 have hm2:=(h2 _).2 hm
 unfold MU
 cases h:MS (DR (BB r c x us)) with
 | nil=>rw [h] at hm2;cases hm2
 | cons a t =>
  rw [h] at hm2 h1 h2
  refine ⟨t,?_⟩
  rcases List.mem_cons.1 hm2 with e | hm3
  ·rw [e]
  ·have h3 := (List.pairwise_cons.1 h1).1 _ hm3
   have h4:=Yz heb a (List.mem_cons_of_mem _ ((h2 a).1 (by simp)))
   unfold iK at h4
   rw [h3] at h4;cases h4
theorem p18 (k:Nat) (args:List Value):AQ (k + 1) 18 args = m18 (AQ k) L args:=by kernel_rfl
theorem p19 (k:Nat) (args:List Value):AQ (k + 1) 19 args = m19 (AQ k) L args:=by kernel_rfl
theorem p20 (k:Nat) (args:List Value):AQ (k + 1) 20 args = m20 (AQ k) L args:=by kernel_rfl
theorem p21 (k:Nat) (args:List Value):AQ (k + 1) 21 args = m21 (AQ k) L args:=by kernel_rfl
theorem UZ:Pv (.pointer none) = none:=rfl
theorem QR:VU (.pointer none) = true:=rfl
theorem Nz {α:Type}:isS (none:Option α) = false:=rfl
theorem iY {m:Nat} {r:List (List Int)} {b:List Int} (he:C8 m (b :: r)):(Gw b r).length = m:=he _ K9
theorem Xh (n f g : Nat) {R C K : Int} {ts x : List Int} (hl : ts.length ≤ 100) (hx : x.length < 900000) : ∃ fl l e, l.length < 900000 ∧
 AQ (n + 8) 18 [.agg ⟨[I R,I C,I K,Sl.v 1 (sl f ts)]⟩,Sl.v 1 (sl g x)] = some (.tuple ⟨[S fl l,I e]⟩)∧AQ (n + 8) 19 [.agg ⟨[I R,I C,I K,Sl.v 1 (sl f ts)]⟩,Sl.v 1 (sl g x)] = some (.tuple ⟨[S fl l,I e]⟩):=by
 rw [p18,p19]
 by_cases h:D5 R C K ts x = 0
 ·have hv := GZ n f g (R := R) (C := C) (K := K) hl hx
  rw [h] at hv
  obtain ⟨r,c,k,us,rfl,rfl,rfl,rfl,hg,hk,hR⟩:=UR h
  have hrc2:r * c≤16:=Nat.mul_le_mul (Cz hg).r4 (Cz hg).c4
  have h1:=K6 n f g hg hk hR
  have h2:=iP n f g (k:=k) hg hR.1 (List.length_pos_of_mem (Ps hg))
  have h3:=Xg (n + 3) f g (k:=k) hg hR.1
  obtain ⟨t,h4⟩:=iX hg hR.1
  have h2:AQ (n + 7) 52 [WY r c k f us,S g x] = some (SR (MU r c x us)):=h2
  rw [h4] at h2
  rw [←Pk] at h1 h3
  refine ⟨0,Gw x (BB r c x us),0,?_,?_,?_⟩
  ·rw [iY (m := r * c) fun y hy => by
    rcases List.mem_cons.1 hy with rfl | hy
    ·exact hR.1
    ·exact Gv hg (fun t h=>h) y hy]
   omega
  ·show Zt (AQ (n + 7)) L (.ofNat r) (.ofNat c) (.ofNat k) (sl f (us.map Int.ofNat)) (sl g x) = _
   have h1':AQ (n + 7) 43 [.agg ⟨[I (.ofNat r),I (.ofNat c),I (.ofNat k),Sl.v 1 (sl f (us.map Int.ofNat))]⟩,(Sl.v 1 (Sl.mk 1 0 (Aq (1 * 1) (Am 0 ([(Sl.v 1 (sl g x))]:List Value)))))] = some (.tuple ⟨[Cv 0 (KZ r c k f us),I 0]⟩):=h1
   have h2':AQ (n + 7) 52 [Cv 0 (KZ r c k f us),Sl.v 1 (sl g x)] = some (Sl.v 1 ⟨(Gw x (BB r c x us) :: t).length,0,RW (Gw x (BB r c x us) :: t)⟩):=h2
   have h5:=Xd (l:=Gw x (BB r c x us) :: t) (i:=0) (by simp)
   have h5:AL (RW (Gw x (BB r c x us) :: t)) (0 * 1) = some (Sl.v 1 (sl 0 (Gw x (BB r c x us)))):=h5
   unfold Zt
   simp only [h1',Ac,FW,Dj,EG,iU,NA,Ak,BP,show nt (Bd (0:Int) 0) = false from rfl,AA,h2',Dc,Dy (show 0 < (Gw x (BB r c x us) :: t).length by simp),h5]
   rfl
  ·show Zu (AQ (n + 7)) L (.ofNat r) (.ofNat c) (.ofNat k) (sl f (us.map Int.ofNat)) (sl g x) = _
   have hv':AQ (n + 7) 46 [.agg ⟨[I (.ofNat r),I (.ofNat c),I (.ofNat k),Sl.v 1 (sl f (us.map Int.ofNat))]⟩,Sl.v 1 (sl g x)] = some (I 0):=hv
   have h3':AQ (n + 7) 53 [.agg ⟨[I (.ofNat r),I (.ofNat c),I (.ofNat k),Sl.v 1 (sl f (us.map Int.ofNat))]⟩,Sl.v 1 (sl g x)] = some (Sl.v 1 (sl 0 (Gw x (BB r c x us)))):=h3
   unfold Zu
   simp only [hv',Ac,BP,show nt (Bd (0:Int) 0) = false from rfl,AA,h3',Dc]
   rfl
 ·have h1 := ML n f g (R := R) (C := C) (K := K) hl hx h
  have hv:=GZ n f g (R:=R) (C:=C) (K:=K) hl hx
  have hv':AQ (n + 7) 46 [.agg ⟨[I R,I C,I K,Sl.v 1 (sl f ts)]⟩,Sl.v 1 (sl g x)] = some (I (D5 R C K ts x)):=hv
  refine ⟨2,[],D5 R C K ts x,by simp,?_,?_⟩
  ·show Zt (AQ (n + 7)) L R C K (sl f ts) (sl g x) = _
   unfold Zt
   simp only [h1,Ac,FW,Dj,EG,UZ,Nz,AA,QR,Ak,BP,Cs,decide_eq_false h,show nt false = true from rfl]
   rfl
  ·show Zu (AQ (n + 7)) L R C K (sl f ts) (sl g x) = _
   unfold Zu
   simp only [hv',Ac,BP,Cs,decide_eq_false h,show nt false = true from rfl,Ak]
   rfl
end Go.BkQ
set_option maxRecDepth 100000
set_option maxHeartbeats 4000000
namespace Go.BkQ
open Go Go.Sp Go.BkYM
noncomputable def SRf (f:Nat) (l:List (List Int)):Value:=Sl.v 1 ⟨l.length,f,RW l⟩
theorem iZ (n f g : Nat) {R C K : Int} {ts x : List Int} (hl : ts.length ≤ 100) (hx : x.length < 900000) : ∃ fl l e, l.length < 900000 ∧ (∃ m, m < 900000 ∧ C8 m l) ∧
 AQ (n + 8) 20 [.agg ⟨[I R,I C,I K,Sl.v 1 (sl f ts)]⟩,Sl.v 1 (sl g x)] = some (.tuple ⟨[SRf fl l,I e]⟩)∧AQ (n + 8) 21 [.agg ⟨[I R,I C,I K,Sl.v 1 (sl f ts)]⟩,Sl.v 1 (sl g x)] = some (.tuple ⟨[SRf fl l,I e]⟩):=by
 rw [p20,p21]
 by_cases h:D5 R C K ts x = 0
 ·have hv := GZ n f g (R := R) (C := C) (K := K) hl hx
  rw [h] at hv
  obtain ⟨r,c,k,us,rfl,rfl,rfl,rfl,hg,hk,hR⟩:=UR h
  have hp:=Cz hg
  have hrc2:r * c≤16:=Nat.mul_le_mul hp.r4 hp.c4
  have hl8:=hp.len8
  have h1:=K6 n f g hg hk hR
  have h2:=iP n f g (k:=k) hg hR.1 (List.length_pos_of_mem (Ps hg))
  rw [←Pk] at h1
  have he:C8 (r * c) (BB r c x us):=Gv hg fun t h=>h
  obtain ⟨s1,s2⟩:=QP he
  have hek:C8 (r * c) (MU r c x us):=fun y hy=>he y ((s2 y).1 hy)
  obtain ⟨Q,q1,q2,q3⟩:=iT (n + 4) L f g (k:=k) hg hR.1 (by show _ < 1000000;omega) us.length L 0 0 [] (by omega) (by show _ < 1000000;omega) (Nat.le_refl _) List.Pairwise.nil (fun y=>by simp [BB]) rfl rfl
  have hQ:Q = MU r c x us:=QO q2 s1 fun y=>(q3 y).trans (s2 y).symm
  subst hQ
  have hkl:(MU r c x us).length≤us.length:=by
   have a1:(MU r c x us).length≤(DR (BB r c x us)).length:=by
    unfold MU
    cases DR (BB r c x us) with
    | nil=>exact Nat.le_refl _
    | cons y r=>have:=Pp y r;simp [MS];omega
   rw [QM he] at a1
   simpa [BB] using a1
  refine ⟨0,MU r c x us,0,by omega,⟨r * c,by omega,hek⟩,?_,?_⟩
  ·show Zv (AQ (n + 7)) L (.ofNat r) (.ofNat c) (.ofNat k) (sl f (us.map Int.ofNat)) (sl g x) = _
   have h1':AQ (n + 7) 43 [.agg ⟨[I (.ofNat r),I (.ofNat c),I (.ofNat k),Sl.v 1 (sl f (us.map Int.ofNat))]⟩,(Sl.v 1 (Sl.mk 1 0 (Aq (1 * 1) (Am 0 ([(Sl.v 1 (sl g x))]:List Value)))))] = some (.tuple ⟨[Cv 0 (KZ r c k f us),I 0]⟩):=h1
   have h2':AQ (n + 7) 52 [Cv 0 (KZ r c k f us),Sl.v 1 (sl g x)] = some (Sl.v 1 ⟨(MU r c x us).length,0,RW (MU r c x us)⟩):=h2
   unfold Zv
   simp only [h1',Ac,FW,Dj,EG,iU,NA,Ak,BP,show nt (Bd (0:Int) 0) = false from rfl,AA,h2',Dc]
   rfl
  ·show Zw (AQ (n + 7)) L (.ofNat r) (.ofNat c) (.ofNat k) (sl f (us.map Int.ofNat)) (sl g x) = _
   have hv':AQ (n + 7) 46 [.agg ⟨[I (.ofNat r),I (.ofNat c),I (.ofNat k),Sl.v 1 (sl f (us.map Int.ofNat))]⟩,Sl.v 1 (sl g x)] = some (I 0):=hv
   unfold Zw
   rw [show us.length = len us from (AV us).symm] at q1
   have q1':EM (AQ (n + 7)) L L (sl g x) 0 0 0 (.ofNat r) (.ofNat c) (.ofNat k) (sl f (us.map Int.ofNat)) ([]:List Value) = some (.tuple ⟨[SR (MU r c x us),I 0]⟩):=by rw [Yx];exact q1
   simp only [hv',Ac,BP,show nt (Bd (0:Int) 0) = false from rfl,AA,q1']
   rfl
 ·have h1 := ML n f g (R := R) (C := C) (K := K) hl hx h
  have hv:=GZ n f g (R:=R) (C:=C) (K:=K) hl hx
  have hv':AQ (n + 7) 46 [.agg ⟨[I R,I C,I K,Sl.v 1 (sl f ts)]⟩,Sl.v 1 (sl g x)] = some (I (D5 R C K ts x)):=hv
  refine ⟨2,[],D5 R C K ts x,by simp,⟨0,by omega,fun y hy=>by cases hy⟩,?_,?_⟩
  ·show Zv (AQ (n + 7)) L R C K (sl f ts) (sl g x) = _
   unfold Zv
   simp only [h1,Ac,FW,Dj,EG,UZ,Nz,AA,QR,Ak,BP,Cs,decide_eq_false h,show nt false = true from rfl]
   rfl
  ·show Zw (AQ (n + 7)) L R C K (sl f ts) (sl g x) = _
   unfold Zw
   simp only [hv',Ac,BP,Cs,decide_eq_false h,show nt false = true from rfl,Ak]
   rfl
theorem p22 (k:Nat) (args:List Value):AQ (k + 1) 22 args = m22 (AQ k) L args:=by kernel_rfl
theorem AjV (k:Nat) (args:List Value):AQ (k + 1) 17 args = m17 (AQ k) L args:=by kernel_rfl
theorem jA (pu : Af) (M : Nat) {a : List Int} (ha : a.length < 900000) (f1 f2 : Nat) : ∀ (d w i : Nat), i + d = a.length → d < w →
 Ov pu M w (sl f1 a) (sl f2 a) (.ofNat i) = some (.bool true)
 | _,0,_,_,h=>by omega
 | 0, w + 1, i, hd, _ => by
  show Ou pu M (Ov pu M w) (sl f1 a) (sl f2 a) (.ofNat i) = _
  unfold Ou Ub
  simp only [I4,Fb (show ¬ i < a.length from by omega),AA]
 | d + 1, w + 1, i, hd, hw => by
  have h1:i < a.length:=by omega
  show Ou pu M (Ov pu M w) (sl f1 a) (sl f2 a) (.ofNat i) = _
  unfold Ou
  simp only [I4,GX,FK h1,Ak,Cx,Ac,Dy h1,Pg h1,BP,Cs,decide_eq_true,show nt true = false from rfl,AA,DC i (by omega),jA pu M ha f1 f2 d w (i + 1) (by omega) (by omega)]
theorem QS (n f1 f2:Nat) {a:List Int} (ha:a.length < 900000):AQ (n + 1) 17 [Sl.v 1 (sl f1 a),Sl.v 1 (sl f2 a)] = some (.bool true):=by
 rw [AjV]
 show bb (nt (Bd (Int.ofNat a.length) (Int.ofNat a.length))) (some (.bool false)) (Ov (AQ n) L L (sl f1 a) (sl f2 a) (.ofNat 0)) = _
 rw [Cs,decide_eq_true rfl,show nt true = false from rfl,AA]
 exact jA (AQ n) L ha f1 f2 a.length L 0 (by omega) (by show _ < 1000000;omega)
theorem Aib {l:List (List Int)} {i:Nat} (h:i < l.length):AL (RW l) (i * 1) = some (Sl.v 1 (sl 0 l[i])):=by rw [←Xd h,Nat.zero_add]
theorem YB (n M : Nat) {l : List (List Int)} {m : Nat} (hm : m < 900000) (he : C8 m l) (hl : l.length < 900000) (f1 f2 : Nat) : ∀ (d w i : Nat), i + d = l.length → d < w →
 OC (AQ (n + 1)) M w ⟨l.length,f1,RW l⟩ ⟨l.length,f2,RW l⟩ (.ofNat i) = some (.bool true)
 | _,0,_,_,h=>by omega
 | 0, w + 1, i, hd, _ => by
  show OB (AQ (n + 1)) M (OC (AQ (n + 1)) M w) ⟨l.length,f1,RW l⟩ ⟨l.length,f2,RW l⟩ (.ofNat i) = _
  unfold OB Ue
  simp only [Fb (show ¬ i < l.length from by omega),AA]
 | d + 1, w + 1, i, hd, hw => by
  have h1:i < l.length:=by omega
  show OB (AQ (n + 1)) M (OC (AQ (n + 1)) M w) ⟨l.length,f1,RW l⟩ ⟨l.length,f2,RW l⟩ (.ofNat i) = _
  unfold OB
  simp only [FK h1,Ak,Cx,Ac,Dy h1,Aib h1,Dc,QS n 0 0 (a:=l[i]) (by rw [he.at h1];exact hm),BU,show nt true = false from rfl,AA,DC i (by omega),YB n M hm he hl f1 f2 d w (i + 1) (by omega) (by omega)]
theorem jB (n f1 f2:Nat) {l:List (List Int)} {m:Nat} (hm:m < 900000) (he:C8 m l) (hl:l.length < 900000):AQ (n + 2) 22 [SRf f1 l,SRf f2 l] = some (.bool true):=by
 rw [p22]
 show bb (nt (Bd (Int.ofNat l.length) (Int.ofNat l.length))) (some (.bool false)) (OC (AQ (n + 1)) L L ⟨l.length,f1,RW l⟩ ⟨l.length,f2,RW l⟩ (.ofNat 0)) = _
 rw [Cs,decide_eq_true rfl,show nt true = false from rfl,AA]
 exact YB n L hm he hl f1 f2 l.length L 0 (by omega) (by show _ < 1000000;omega)
theorem VZ (k:Nat) (args:List Value):AQ (k + 1) 10090 args = LJ (AQ k) L args:=by kernel_rfl
theorem kinLaw (n f g:Nat) {R C K:Int} {ts x:List Int}:AQ (n + 9) 4 [.agg ⟨[I R,I C,I K,S f ts]⟩,S g x] = some (.bool true):=by
 have e:AQ (n + 9) 4 [.agg ⟨[I R,I C,I K,S f ts]⟩,S g x] = m4_ (AQ (n + 8)) L R C K (sl f ts) (sl g x):=by kernel_rfl
 rw [e]
 have e1:AQ (n + 8) 10090 [(.agg ⟨[I R,I C,I K,(Sl.v 1 (sl f ts))]⟩),(Sl.v 1 (sl g x)),(Sl.v 1 (Sl.mk 0 2 []))] = some (.tuple ⟨[.bool (decide (30 < ts.length∨60 < x.length))]⟩):=by
  rw [VZ]
  show bb (AY (.ofNat 30) (.ofNat ts.length)) (some (Value.tuple ⟨[(.bool true)]⟩)) (bb (AY (.ofNat 60) (.ofNat x.length)) (some (Value.tuple ⟨[(.bool true)]⟩)) (some (Value.tuple ⟨[(.bool (AY (.ofNat 60) (.ofNat 0)))]⟩))) = _
  rw [Ce,Ce]
  by_cases h1:30 < ts.length
  ·rw [decide_eq_true h1,decide_eq_true (.inl h1:30 < ts.length∨60 < x.length)];rfl
  ·rw [decide_eq_false h1]
   by_cases h2:60 < x.length
   ·rw [decide_eq_true h2,decide_eq_true (.inr h2:30 < ts.length∨60 < x.length)];rfl
   ·rw [decide_eq_false h2,show decide (30 < ts.length∨60 < x.length) = false from decide_eq_false (by omega)];rfl
 have hw:AQ (n + 8) 10 [] = some (.bool true):=by rw [p10];rfl
 unfold m4_
 simp only [e1,Ac,FW,Dj,EG,BU,hw]
 by_cases hl:30 < ts.length∨60 < x.length
 ·rw [decide_eq_true hl];rfl
 ·rw [decide_eq_false hl, AA]
  obtain ⟨fl,l,e2,hll,t1,t2⟩:=Xh n f g (R:=R) (C:=C) (K:=K) (ts:=ts) (x:=x) (by omega) (by omega)
  obtain ⟨fl2,l2,e3,hl2,⟨m,hm,he⟩,s1,s2⟩:=iZ n f g (R:=R) (C:=C) (K:=K) (ts:=ts) (x:=x) (by omega) (by omega)
  have t3:=QS (n + 7) fl fl hll
  have s3:=jB (n + 6) fl2 fl2 hm he hl2
  unfold S at t1 t2
  unfold SRf at s1 s2 s3
  simp only [t1,t2,Ac,FW,Dj,EG,Dc,BP,s1,s2,t3,BU,Ak,Cs,decide_eq_true,s3]
  rfl
end Go.BkQ
