/- Made from wip. -/
import Derived.Test.YtokbaaeimejjlaaGreatDoorBkY7x

set_option maxRecDepth 100000
set_option maxHeartbeats 4000000
namespace Go.BkQ
open Go Go.Sp Go.BkYM
theorem p46 (k:Nat) (args:List Value):AQ (k + 1) 46 args = m46 (AQ k) L args:=by kernel_rfl
theorem p47 (k:Nat) (args:List Value):AQ (k + 1) 47 args = m47 (AQ k) L args:=by kernel_rfl
theorem q49 (k:Nat) (args:List Value):AQ (k + 1) 49 args = m49 (AQ k) L args:=by kernel_rfl
theorem p50 (k:Nat) (args:List Value):AQ (k + 1) 50 args = m50 (AQ k) L args:=by kernel_rfl
theorem p43 (k:Nat) (args:List Value):AQ (k + 1) 43 args = m43 (AQ k) L args:=by kernel_rfl
theorem AbB (k:Nat) (args:List Value):AQ (k + 1) 10480 args = LK (AQ k) L args:=by kernel_rfl
noncomputable def D5 (R C K:Int) (ts x:List Int):Int:=if DL R C K ts = 0 then EN R.toNat C.toNat K.toNat x else DL R C K ts
theorem W9 (pu:Af) (M:Nat) {w:Nat} {s s':Sl} {e i R C K:Int} (h:e ≠ 0):I8 pu M (w + 1) s e i R C K s' = some (I e):=by
 show bb (AY i (Int.ofNat s.n)) (bb (Bd e 0) _ (some (I e))) (some (I e)) = _
 rw [Cs,decide_eq_false h]
 cases AY i (Int.ofNat s.n) <;> rfl
theorem iC (n M f : Nat) {R C : Int} {k : Nat} {s' : Sl} {x : List Int} (hk : 1 ≤ k ∧ k ≤ 4) (hl : x.length < 900000) : ∀ (rest : List Int) (w i : Nat), x.drop i = rest → rest.length + 1 < w →
 I8 (AQ (n + 1)) M w (sl f x) 0 (.ofNat i) R C (.ofNat k) s' = some (I (if (∀ z ∈ rest,0≤z∧z < (k:Int)) then 0 else 1))
 | _,0,_,_,h=>by omega
 | [], w + 1, i, hd, _ => by
  have h1:=Gs hd
  show bb (AY (.ofNat i) (.ofNat x.length)) _ (some (I 0)) = _
  rw [Ce,decide_eq_false (by omega),AA,if_pos (by simp)]
 | z :: rest, w + 1, i, hd, hw => by
  obtain ⟨hd2,hi,_⟩:=KY hd
  have hlt:Nat.blt i x.length = true:=by rw [blt_eq];simp;omega
  have hrl:(z :: rest).length = rest.length + 1:=rfl
  show Uh (AQ (n + 1)) M (I8 (AQ (n + 1)) M w) (sl f x) 0 (.ofNat i) R C (.ofNat k) s' = _
  unfold Uh
  rw [I4,Ce,decide_eq_true hi,Ak]
  unfold Ug
  rw [show Bd (0:Int) 0 = true from rfl,Ak,Cx,Ac,I4,GX,hlt,show an true true = true from rfl,Ak,SH hd,Ac,BP,Ac,UK,Ac,BU,Ac,show Aj .i64 (Int.sub (Int.ofNat k) (1:Int)) = (k:Int) - 1 from Oe _ (by show (-9223372036854775808:Int)≤(k:Int) - 1;omega) (by show (k:Int) - 1≤9223372036854775807;omega)]
  by_cases hz:0≤z∧z < (k:Int)
  ·rw [show decide ((0 : Int) ≤ z ∧ z ≤ (k : Int) - 1) = true from decide_eq_true (by omega), show nt true = false from rfl, AA]
   show I8 (AQ (n + 1)) M w (sl f x) 0 (Aj .i64 (Int.add (.ofNat i) (1:Int))) R C (.ofNat k) s' = _
   rw [DC i (by omega),iC n M f hk hl rest w (i + 1) hd2 (by omega)]
   by_cases hr:∀ z ∈ rest,0≤z∧z < (k:Int)
   ·rw [if_pos hr, if_pos fun y hy => by
     rcases List.mem_cons.1 hy with rfl | hy
     ·exact hz
     ·exact hr y hy]
   ·rw [if_neg hr,if_neg fun h=>hr fun y hy=>h y (List.mem_cons_of_mem _ hy)]
  ·rw [show decide ((0 : Int) ≤ z ∧ z ≤ (k : Int) - 1) = false from decide_eq_false (by omega), show nt false = true from rfl, Ak]
   show I8 (AQ (n + 1)) M w (sl f x) 1 _ R C (.ofNat k) s' = _
   obtain ⟨w,rfl⟩:∃ v,w = v + 1:=⟨w - 1,by omega⟩
   rw [W9 _ _ (by omega),if_neg fun h=>hz (h z List.mem_cons_self)]
theorem GZ (n f g:Nat) {R C K:Int} {ts x:List Int} (hl:ts.length≤100) (hx:x.length < 900000):AQ (n + 7) 46 [.agg ⟨[I R,I C,I K,S f ts]⟩,S g x] = some (I (D5 R C K ts x)):=by
 rw [p46]
 show oo (AQ (n + 6) 36 [.agg ⟨[I R,I C,I K,S f ts]⟩]) none (fun v4571=>(oo (Bi .i64 v4571) none fun x4573=>(bb (Bd x4573 (0:Int)) (OH (AQ (n + 6)) L (sl g x) x4573 (nt (Bd (Int.ofNat x.length) (Aj .i64 (Int.mul R C)))) R C K (sl f ts)) (OH (AQ (n + 6)) L (sl g x) x4573 false R C K (sl f ts))))) = _
 rw [gX n f hl,Ac,BP,Ac,Cs]
 unfold D5
 by_cases h:DL R C K ts = 0
 ·rw [if_pos h, decide_eq_true h, Ak, h]
  obtain ⟨r,c,k,us,rfl,rfl,rfl,rfl,hg,hk⟩:=LZ h
  have hp:=Cz hg
  have hrc:r * c≤16:=Nat.mul_le_mul hp.r4 hp.c4
  rw [show Int.mul (Int.ofNat r) (Int.ofNat c) = Int.ofNat (r * c) from rfl,Oe _ (by simp;omega) (by simp;omega),SN]
  unfold EN
  show OH (AQ (n + 6)) L (sl g x) 0 (nt (Nat.beq x.length (r * c))) (.ofNat r) (.ofNat c) (.ofNat k) (sl f (us.map Int.ofNat)) = some (I (if x.length ≠ r * c then 5 else if (∀ z ∈ x,0≤z∧z < (k:Int)) then 0 else 1))
  by_cases hx2:x.length = r * c
  ·rw [if_neg (by simpa using hx2), hx2, show Nat.beq (r * c) (r * c) = true from by simp]
   show I8 (AQ (n + 6)) L L (sl g x) 0 (.ofNat 0) (.ofNat r) (.ofNat c) (.ofNat k) (sl f (us.map Int.ofNat)) = _
   exact iC (n + 5) L g (by omega) hx x L 0 List.drop_zero (by show _ < 1000000;omega)
  ·rw [if_pos hx2, show Nat.beq x.length (r * c) = false from by cases e : Nat.beq x.length (r * c) with | false => rfl | true => exact absurd (Nat.eq_of_beq_eq_true e) hx2]
   exact W9 (w:=999999) _ _ (by omega)
 ·rw [if_neg h, decide_eq_false h, AA]
  exact W9 (w:=999999) _ _ h
theorem iD (pu : Af) (M : Nat) {a b : List Int} (hab : a.length = b.length) (hl : a.length < 900000) (f1 f2 : Nat) : ∀ (r r' : List Int) (w i : Nat), a.drop i = r → b.drop i = r' → r.length < w →
 Qs pu M w (sl f1 a) (sl f2 b) (.ofNat a.length) (.ofNat i) = some (.bool (decide (r = r')))
 | _,_,0,_,_,_,h=>by omega
 | [], r', w + 1, i, hd, hd', _ => by
  have h1:=Gs hd
  have h2:r' = []:=by rw [←hd'];exact List.drop_eq_nil_iff.2 (by omega)
  subst h2
  show bb (AY (.ofNat i) (.ofNat a.length)) _ (some (Value.bool true)) = _
  rw [Ce,decide_eq_false (by omega)];rfl
 | x :: r, r', w + 1, i, hd, hd', hw => by
  obtain ⟨hd2,hi,_⟩:=KY hd
  cases r' with
  | nil=>have h1:=Gs hd';omega
  | cons y r' =>
   obtain ⟨hd3,hi3,_⟩:=KY hd'
   have hr:(x :: r).length = r.length + 1:=rfl
   have hlt:Nat.blt i a.length = true:=by rw [blt_eq];simp;omega
   have hlt2:Nat.blt i b.length = true:=by rw [blt_eq];simp;omega
   have ih:=iD pu M hab hl f1 f2 r r' w (i + 1) hd2 hd3 (by omega)
   show Uj pu M (Qs pu M w) (sl f1 a) (sl f2 b) (.ofNat a.length) (.ofNat i) = _
   unfold Uj
   rw [Ce,decide_eq_true hi,Ak,Cx,Ac,I4,I4,GX,GX,hlt,hlt2,show an true true = true from rfl,Ak,SH hd,Ac,BP,Ac,Ak,SH hd',Ac,BP,Ac,DC i (by omega),ih,Cs]
   by_cases h:x = y
   ·subst h;simp
   ·have hc : ¬ (x :: r = y :: r') := fun e => h (by injection e)
    rw [decide_eq_false h,decide_eq_false hc];rfl
theorem UO (n f1 f2:Nat) {a b:List Int} (hl:a.length < 900000):AQ (n + 1) 49 [S f1 a,S f2 b] = some (.bool (decide (a = b))):=by
 rw [q49]
 show bb (nt (Bd (Int.ofNat a.length) (Int.ofNat b.length))) (some (.bool false)) (Qs (AQ n) L L (sl f1 a) (sl f2 b) (.ofNat a.length) (.ofNat 0)) = _
 rw [Cs]
 by_cases h:a.length = b.length
 ·rw [decide_eq_true (congrArg Int.ofNat h), show nt true = false from rfl, AA]
  exact iD (AQ n) L h hl f1 f2 a b L 0 List.drop_zero List.drop_zero (by show _ < 1000000;omega)
 ·have : ¬ a = b := fun e => h (by rw [e])
  rw [decide_eq_false (fun e=>h (Int.ofNat.inj e)),decide_eq_false this];rfl
theorem iE (pu : Af) (M : Nat) {a b : List Int} (hab : a.length = b.length) (hl : a.length < 900000) (f1 f2 : Nat) : ∀ (r r' : List Int) (w i : Nat), a.drop i = r → b.drop i = r' → r.length < w →
 Ul pu M w (sl f1 a) (sl f2 b) (.ofNat i) = some (.bool (decide (r = r')))
 | _,_,0,_,_,_,h=>by omega
 | [], r', w + 1, i, hd, hd', _ => by
  have h1:=Gs hd
  have h2:r' = []:=by rw [←hd'];exact List.drop_eq_nil_iff.2 (by omega)
  subst h2
  show bb (AY (.ofNat i) (.ofNat a.length)) _ (some (Value.bool true)) = _
  rw [Ce,decide_eq_false (by omega)];rfl
 | x :: r, r', w + 1, i, hd, hd', hw => by
  obtain ⟨hd2,hi,_⟩:=KY hd
  cases r' with
  | nil=>have h1:=Gs hd';omega
  | cons y r' =>
   obtain ⟨hd3,hi3,_⟩:=KY hd'
   have hr:(x :: r).length = r.length + 1:=rfl
   have hlt:Nat.blt i a.length = true:=by rw [blt_eq];simp;omega
   have hlt2:Nat.blt i b.length = true:=by rw [blt_eq];simp;omega
   have ih:=iE pu M hab hl f1 f2 r r' w (i + 1) hd2 hd3 (by omega)
   show Uk pu M (Ul pu M w) (sl f1 a) (sl f2 b) (.ofNat i) = _
   unfold Uk
   rw [I4,Ce,decide_eq_true hi,Ak,Cx,Ac,I4,GX,GX,hlt,hlt2,show an true true = true from rfl,Ak,SH hd,Ac,BP,Ac,Ak,SH hd',Ac,BP,Ac,DC i (by omega),ih,Cs]
   by_cases h:x = y
   ·subst h;simp
   ·have hc : ¬ (x :: r = y :: r') := fun e => h (by injection e)
    rw [decide_eq_false h,decide_eq_false hc];rfl
theorem ZN (n f1 f2:Nat) {a b:List Int} (h:a.length = b.length) (hl:a.length < 900000):AQ (n + 1) 50 [S f1 a,S f2 b] = some (.bool (decide (a = b))):=by
 rw [p50]
 exact iE (AQ n) L h hl f1 f2 a b L 0 List.drop_zero List.drop_zero (by show _ < 1000000;omega)
end Go.BkQ
set_option maxRecDepth 100000
set_option maxHeartbeats 4000000
namespace Go.BkQ
open Go Go.Sp Go.BkYM
theorem Xa : ∀ n, jJ n = List.range n
 | 0=>rfl
 | n + 1 => by
  show Br (jJ n) [n] = _
  rw [BH,Xa n,List.range_succ]
theorem K4 (r c t:Nat):cellL r c t = (List.range (r * c)).map (FM r c t):=by
 show AP (FM r c t) (jJ (r * c)) = _
 rw [Cc,Xa]
theorem ZO (n:Nat) (K:Int) (s:Sl):AP (fun p:Nat×Nat=>AP (fun t=>AP (fun i=>AQ (n + 2) 81 [.agg ⟨[I (.ofNat p.1),I (.ofNat p.2),I K,Sl.v 1 s]⟩,I (.ofNat t),I (.ofNat i)]) (jJ (p.1 * p.2))) (FD (Nat.beq p.1 p.2))) JP = AP (fun p=>AP (fun t=>AP (fun i=>some (I (.ofNat (FM p.1 p.2 t i)))) (jJ (p.1 * p.2))) (FD (Nat.beq p.1 p.2))) JP:=by kernel_rfl
theorem iF:Au (fun p:Nat×Nat×List Nat=>Au (fun t=>UI (FD (Nat.beq p.1 p.2.1)) t) p.2.2) Ca = true:=by kernel_rfl
theorem iG {r c:Nat} {us:List Nat} (hg:(r,c,us) ∈ Ca) {t:Nat} (ht:t ∈ us):t ∈ FD (Nat.beq r c):=by
 have h:=iF
 rw [Bh,List.all_eq_true] at h
 have h:=h _ hg
 rw [Bh,List.all_eq_true] at h
 exact UJ.1 (h t ht)
theorem mD (n:Nat) {K:Int} {s:Sl} {r c t i:Nat} (hr:1≤r∧r≤4) (hc:1≤c∧c≤4) (ht:t ∈ FD (Nat.beq r c)) (hi:i < r * c):AQ (n + 2) 81 [.agg ⟨[I (.ofNat r),I (.ofNat c),I K,Sl.v 1 s]⟩,I (.ofNat t),I (.ofNat i)] = some (I (.ofNat (FM r c t i))):=by
 have h1:=Dn (f:=fun p:Nat×Nat=>AP (fun t=>AP (fun i=>AQ (n + 2) 81 [.agg ⟨[I (.ofNat p.1),I (.ofNat p.2),I K,Sl.v 1 s]⟩,I (.ofNat t),I (.ofNat i)]) (jJ (p.1 * p.2))) (FD (Nat.beq p.1 p.2))) (g:=fun p=>AP (fun t=>AP (fun i=>some (I (.ofNat (FM p.1 p.2 t i)))) (jJ (p.1 * p.2))) (FD (Nat.beq p.1 p.2))) (ZO n K s) (r,c) (Jj hr hc)
 have h2:=Dn (f:=fun t=>AP (fun i=>AQ (n + 2) 81 [.agg ⟨[I (.ofNat r),I (.ofNat c),I K,Sl.v 1 s]⟩,I (.ofNat t),I (.ofNat i)]) (jJ (r * c))) (g:=fun t=>AP (fun i=>some (I (.ofNat (FM r c t i)))) (jJ (r * c))) h1 t ht
 exact Dn (f:=fun i=>AQ (n + 2) 81 [.agg ⟨[I (.ofNat r),I (.ofNat c),I K,Sl.v 1 s]⟩,I (.ofNat t),I (.ofNat i)]) (g:=fun i=>some (I (.ofNat (FM r c t i)))) h2 i (by rw [Xa];exact List.mem_range.2 hi)
theorem Ah6 (l:List Int):Aq (l.length * 1) (Am 0 (l.map I)) = l.map I:=by rw [Cg,Bz,List.drop_zero,Nat.mul_one];exact List.take_of_length_le (by simp)
theorem AjT (l:List Int):an (Nat.ble (0 + l.length * 1) (len (l.map I))) (Au Ah (l.map I)) = true:=by
 rw [Eb,AV,show Nat.ble (0 + l.length * 1) (l.map I).length = true from Nat.ble_eq_true_of_le (by simp)];rfl
theorem K5 (n M f : Nat) {K : Int} {s : Sl} {r c t : Nat} {x : List Int} (hr : 1 ≤ r ∧ r ≤ 4) (hc : 1 ≤ c ∧ c ≤ 4) (ht : t ∈ FD (Nat.beq r c)) (hx : x.length = r * c) (hlt : ∀ k ∈ cellL r c t, k < x.length) : ∀ (d i w : Nat) (q : List Int) (cc : Nat), i + d = r * c → d < w → q.length = i → cc / 2 = q.length → cc % 2 = 0 →
 Jb (AQ (n + 2)) M w (sl f x) (.ofNat t) q.length cc (.ofNat i) (.ofNat r) (.ofNat c) K s (q.map I) = some (.tuple ⟨[S 0 (q ++ pick x ((cellL r c t).drop i))]⟩)
 | _,_,0,_,_,_,h,_,_,_=>by omega
 | 0, i, w + 1, q, cc, hd, _, hq, _, _ => by
  show bb (Au Ah (q.map I)) (bb (AY (.ofNat i) (.ofNat x.length)) _ (bb (Au Ah (q.map I)) (bb (an (Nat.ble (0 + q.length * 1) (len (q.map I))) (Au Ah (Aq (q.length * 1) (Am 0 (q.map I))))) (some (Value.tuple ⟨[(Sl.v 1 (Sl.mk q.length 0 (Aq (q.length * 1) (Am 0 (q.map I)))))]⟩)) none) none)) none = _
  rw [Eb,Ak,Ce,decide_eq_false (by omega),AA,Ak,Ah6,AjT,Ak]
  have:(cellL r c t).drop i = []:=by rw [K4];exact List.drop_eq_nil_iff.2 (by simp;omega)
  rw [this,show pick x [] = [] from rfl,List.append_nil];rfl
 | d + 1, i, w + 1, q, cc, hd, hw, hq, hcc, hcc2 => by
  have hi:i < r * c:=by omega
  have hrc:r * c≤16:=Nat.mul_le_mul hr.2 hc.2
  have hget:(cellL r c t)[i]? = some (FM r c t i):=by rw [K4];simp [hi]
  have hk:=hlt _ (List.mem_of_getElem? hget)
  have hdr:(cellL r c t).drop i = FM r c t i :: (cellL r c t).drop (i + 1):=by
   have hl:i < (cellL r c t).length:=(List.getElem?_eq_some_iff.1 hget).1
   rw [List.drop_eq_getElem_cons hl]
   congr 1
   exact (List.getElem?_eq_some_iff.1 hget).2
  have hpk:pick x ((cellL r c t).drop i) = x.getD (FM r c t i) 0 :: pick x ((cellL r c t).drop (i + 1)):=by rw [hdr];rfl
  show Ja (AQ (n + 2)) M (Jb (AQ (n + 2)) M w) (sl f x) (.ofNat t) q.length cc (.ofNat i) (.ofNat r) (.ofNat c) K s (q.map I) = _
  unfold Ja
  rw [Eb,Ak,I4,Ce,decide_eq_true (by omega),Ak,mD n hr hc ht hi,Ac,BP,Ac,Cx,Ac,show Nat.blt (FM r c t i) x.length = true from by rw [blt_eq];simpa using hk,show an true true = true from rfl,Ak,GX,Pg hk,Ac,BP,Ac,Ah1 (by omega) hcc hcc2,Ak,Ah2,Eb,Ak,DC i (by omega)]
  have ih:=K5 n M f (K:=K) (s:=s) hr hc ht hx hlt d (i + 1) w (q ++ [x[FM r c t i]]) (2 * (q.length + 1) + bb false 1 0) (by omega) (by omega) (by simp;omega) (by rw [List.length_append];show (2 * (q.length + 1) + 0) / 2 = q.length + 1;omega) (by show (2 * (q.length + 1) + 0) % 2 = 0;omega)
  rw [List.length_append] at ih
  refine ih.trans ?_
  rw [hpk,List.append_assoc,show x.getD (FM r c t i) 0 = x[FM r c t i] from by simp [List.getD_eq_getElem?_getD,hk]];rfl
theorem Pj (n f fl:Nat) {r c k t:Nat} {us:List Nat} {x:List Int} (hg:(r,c,us) ∈ Ca) (ht:t ∈ us) (hx:x.length = r * c):AQ (n + 3) 10480 [Gt r c k fl us,S f x,I (.ofNat t)] = some (.tuple ⟨[S 0 (pick x (cellL r c t))]⟩):=by
 have hp:=Cz hg
 rw [AbB]
 have h:=K5 n L f (K:=.ofNat k) (s:=⟨len us,fl,IB us⟩) ⟨hp.r1,hp.r4⟩ ⟨hp.c1,hp.c4⟩ (iG hg ht) hx (fun j hj=>by rw [hx];exact (hp.row t ht).2.2 j hj) (r * c) 0 L [] 0 (by omega) (by have:r * c≤16:=Nat.mul_le_mul hp.r4 hp.c4;show _ < 1000000;omega) rfl rfl rfl
 exact h
end Go.BkQ
set_option maxRecDepth 100000
set_option maxHeartbeats 4000000
namespace Go.BkQ
open Go Go.Sp Go.BkYM
theorem PP (n f f0:Nat) {R C K:Int} {ts:List Int} {bs:Sl} (hl:ts.length≤100) (h:DL R C K ts ≠ 0):AQ (n + 7) 43 [.agg ⟨[I R,I C,I K,S f ts]⟩,Sl.v 1 bs] = some (.tuple ⟨[.pointer none,I (DL R C K ts)]⟩):=by
 rw [p43]
 show oo (AQ (n + 6) 55 [.agg ⟨[I R,I C,I K,S f ts]⟩]) none (fun v4098=>(oo (CQ v4098) none fun l4100=>(ll l4100 none fun v4102 l4100=>(ll l4100 none fun v4103 l4100=>(ll l4100 (bb (isS (Pv v4102)) (oo (Pv v4102) none fun p4105=>(oo (Bi .i64 v4103) none fun x4107=>(bb (nt (Bd x4107 (0:Int))) (some (Value.tuple ⟨[(.pointer none),(.int .i64 x4107)]⟩)) (KR (AQ (n + 6)) L L (Db.off p4105) (Db.cs p4105) bs (Int.ofNat (Sl.n bs)) (0:Int))))) (bb (VU v4102) (oo (Bi .i64 v4103) none fun x4106=>(bb (nt (Bd x4106 (0:Int))) (some (Value.tuple ⟨[(.pointer none),(.int .i64 x4106)]⟩)) (X6 (AQ (n + 6)) L L bs (Int.ofNat (Sl.n bs)) (0:Int)))) none)) fun _ _=>none))))) = _
 rw [UN n f hl h,Ac]
 show bb (nt (Bd (DL R C K ts) 0)) (some (Value.tuple ⟨[(.pointer none),(.int .i64 (DL R C K ts))]⟩)) _ = _
 rw [Cs,decide_eq_false h];rfl
end Go.BkQ
set_option maxRecDepth 100000
set_option maxHeartbeats 4000000
namespace Go.BkQ
open Go Go.Sp Go.BkYM
noncomputable def eS (r c k:Nat) (s:Sl):Int:=EN r c k (s.cs.map fun v=>(Bi .i64 v).getD 0)
theorem pY (r c k f:Nat) (x:List Int):eS r c k (sl f x) = EN r c k x:=by
 unfold eS
 rw [GX,List.map_map]
 have:((fun v=>(Bi .i64 v).getD 0) ∘ I) = id:=funext fun n=>rfl
 rw [this,List.map_id]
theorem UQ {r c k:Nat} {x:List Int} (h:EN r c k x = 0):MK r c k x:=by
 unfold EN at h
 by_cases h1:x.length = r * c
 ·rw [if_neg (by simpa using h1)] at h
  by_cases h2:∀ z ∈ x,0≤z∧z < (k:Int)
  ·exact ⟨h1,h2⟩
  ·rw [if_neg h2] at h;cases h
 ·rw [if_pos h1] at h;cases h
theorem Pk (r c k f:Nat) (us:List Nat):(Value.agg ⟨[I (.ofNat r),I (.ofNat c),I (.ofNat k),S f (us.map Int.ofNat)]⟩) = Gt r c k f us:=by
 unfold S;rw [Yx];rfl
theorem UR {R C K:Int} {ts x:List Int} (h:D5 R C K ts x = 0):∃ r c k us,R = .ofNat r∧C = .ofNat c∧K = .ofNat k∧ts = us.map Int.ofNat∧(r,c,us) ∈ Ca∧(k = 1∨k = 2∨k = 3∨k = 4)∧MK r c k x:=by
 unfold D5 at h
 by_cases hp:DL R C K ts = 0
 ·rw [if_pos hp] at h
  obtain ⟨r,c,k,us,rfl,rfl,rfl,rfl,hg,hk⟩:=LZ hp
  exact ⟨r,c,k,us,rfl,rfl,rfl,rfl,hg,hk,UQ h⟩
 ·rw [if_neg hp] at h;exact absurd h hp
theorem Xb (n f f0 : Nat) {R C K : Int} {ts : List Int} {xs : List (Nat × List Int)} (hl : ts.length ≤ 100) (hx : ∀ p ∈ xs, p.2.length < 900000) (hn : xs.length < 1000) (hb : Gu (xs.map fun p => D5 R C K ts p.2) ≠ 0) (hne : xs ≠ []) :
 AQ (n + 7) 43 [.agg ⟨[I R,I C,I K,S f ts]⟩,Sl.v 1 ⟨xs.length,f0,xs.map fun p=>S p.1 p.2⟩] = some (.tuple ⟨[.pointer none,I (Gu (xs.map fun p=>D5 R C K ts p.2))]⟩):=by
 by_cases hp:DL R C K ts = 0
 ·have e : (xs.map fun p => D5 R C K ts p.2) = xs.map fun p => EN R.toNat C.toNat K.toNat p.2 := List.map_congr_left fun p _ => by unfold D5; rw [if_pos hp]
  rw [e] at hb ⊢
  obtain ⟨r,c,k,us,rfl,rfl,rfl,rfl,hg,hk⟩:=LZ hp
  have hpr:=Cz hg
  have h:=QD n f0 f (r:=r) (c:=c) (k:=k) (ts:=us) (bs:=xs.map fun p=>sl p.1 p.2) hk hg hpr.r1 hpr.r4 hpr.c1 hpr.c4 (eS r c k) (fun s hs=>by
   obtain ⟨p,hp2,rfl⟩:=List.mem_map.1 hs
   exact ⟨p.1,p.2,rfl,hx p hp2,pY r c k p.1 p.2⟩) (by rw [List.length_map];exact hn)
  rw [List.length_map,List.map_map,List.map_map] at h
  have e2:(eS r c k ∘ fun p:Nat×List Int=>sl p.1 p.2) = fun p=>EN r c k p.2:=funext fun p=>pY r c k p.1 p.2
  rw [e2] at h
  rw [Pk]
  refine h.trans ?_
  unfold UH
  rw [if_neg (show Gu (List.map (fun p:Nat×List Int=>EN r c k p.2) xs) ≠ 0 from hb)];rfl
 ·have e : Gu (xs.map fun p => D5 R C K ts p.2) = DL R C K ts := by
   match xs,hne with
   | p :: xs, _ =>
    show (if D5 R C K ts p.2 = 0 then _ else D5 R C K ts p.2) = _
    have:D5 R C K ts p.2 = DL R C K ts:=by unfold D5;rw [if_neg hp]
    rw [this,if_neg hp]
  rw [e]
  exact PP n f f0 hl hp
theorem Ah7 (g:Nat) (x:List Int):(Sl.v 1 (Sl.mk 1 0 (Aq (1 * 1) (Am 0 ([(Sl.v 1 (sl g x))]:List Value))))) = Sl.v 1 ⟨[(g,x)].length,0,[(g,x)].map fun p:Nat×List Int=>S p.1 p.2⟩:=rfl
theorem QG (e:Int):Gu [e] = e:=by
 show (if e = 0 then 0 else e) = e
 by_cases h:e = 0
 ·rw [if_pos h,h]
 ·rw [if_neg h]
theorem ML (n f g : Nat) {R C K : Int} {ts x : List Int} (hl : ts.length ≤ 100) (hx : x.length < 900000) (h : D5 R C K ts x ≠ 0) :
 AQ (n + 7) 43 [.agg ⟨[I R,I C,I K,Sl.v 1 (sl f ts)]⟩,(Sl.v 1 (Sl.mk 1 0 (Aq (1 * 1) (Am 0 ([(Sl.v 1 (sl g x))]:List Value)))))] = some (.tuple ⟨[.pointer none,I (D5 R C K ts x)]⟩):=by
 rw [Ah7]
 have:=Xb n f 0 (xs:=[(g,x)]) hl (fun p hp=>by obtain rfl:=List.mem_singleton.1 hp;exact hx) (by simp) (R:=R) (C:=C) (K:=K) (by show Gu [D5 R C K ts x] ≠ 0;rw [QG];exact h) (by simp)
 refine this.trans ?_
 show some (Value.tuple ⟨[.pointer none,I (Gu [D5 R C K ts x])]⟩) = _
 rw [QG]
theorem K6 (n f g : Nat) {r c k : Nat} {us : List Nat} {x : List Int} (hg : (r, c, us) ∈ Ca) (hk : k = 1 ∨ k = 2 ∨ k = 3 ∨ k = 4) (hx : MK r c k x) :
 AQ (n + 7) 43 [Gt r c k f us,(Sl.v 1 (Sl.mk 1 0 (Aq (1 * 1) (Am 0 ([(Sl.v 1 (sl g x))]:List Value)))))] = some (.tuple ⟨[WY r c k f us,I 0]⟩):=by
 have hpr:=Cz hg
 have hrc:r * c≤16:=Nat.mul_le_mul hpr.r4 hpr.c4
 have h:=QD n 0 f (bs:=[sl g x]) hk hg hpr.r1 hpr.r4 hpr.c1 hpr.c4 (fun _=>0) (fun s hs=>by
  obtain rfl:=List.mem_singleton.1 hs
  exact ⟨g,x,rfl,by rw [hx.1];omega,hx.valid.symm⟩) (by simp)
 exact h
end Go.BkQ
set_option maxRecDepth 100000
set_option maxHeartbeats 4000000
namespace Go.BkQ
open Go Go.Sp Go.BkYM
def G5 : List Int → List Int → Bool
 | x :: r,y :: s=>if x = y then G5 r s else decide (x < y)
 | _,_=>false
theorem FY : ∀ a, G5 a a = false
 | []=>rfl
 | x :: r=>by simp [G5,FY r]
theorem HY : ∀ {a b c : List Int}, G5 a b = true → G5 b c = true → G5 a c = true
 | [],_,_,h,_=>by simp [G5] at h
 | _ :: _,[],_,h,_=>by simp [G5] at h
 | _ :: _,_ :: _,[],_,h=>by simp [G5] at h
 | x :: a, y :: b, z :: c, h1, h2 => by
  unfold G5 at h1 h2 ⊢
  by_cases e1:x = y
  ·subst e1
   by_cases e2:x = z
   ·subst e2
    simp only [if_true] at *
    exact HY h1 h2
   ·rw [if_neg e2] at h2 ⊢
    exact h2
  ·rw [if_neg e1] at h1
   by_cases e2:y = z
   ·subst e2
    rw [if_neg e1];exact h1
   ·rw [if_neg e2] at h2
    have h1:=of_decide_eq_true h1
    have h2:=of_decide_eq_true h2
    rw [if_neg (by omega)]
    exact decide_eq_true (by omega)
theorem K7 : ∀ {a b : List Int}, a.length = b.length → a ≠ b → G5 a b = false → G5 b a = true
 | [],[],_,h,_=>absurd rfl h
 | [],_ :: _,h,_,_=>by simp at h
 | _ :: _,[],h,_,_=>by simp at h
 | x :: a, y :: b, hl, hn, h => by
  unfold G5 at h ⊢
  by_cases e:x = y
  ·subst e
   simp only [if_true] at *
   exact K7 (by simpa using hl) (fun e=>hn (by rw [e])) h
  ·rw [if_neg e] at h
   have h:=of_decide_eq_false h
   rw [if_neg (Ne.symm e)]
   exact decide_eq_true (by omega)
theorem K8 {a b:List Int} (h:G5 a b = true):G5 b a = false:=by
 cases e:G5 b a with
 | false=>rfl
 | true=>have:=HY h e;rw [FY] at this;cases this
theorem FK {n i:Nat} (h:i < n):AY (Int.ofNat i) (Int.ofNat n) = true:=by rw [Ce];exact decide_eq_true h
theorem Fb {n i:Nat} (h:¬ i < n):AY (Int.ofNat i) (Int.ofNat n) = false:=by rw [Ce];exact decide_eq_false h
theorem Dy {n i:Nat} (h:i < n):an (Nat.blt i n) true = true:=by rw [CF,blt_eq,decide_eq_true h];rfl
theorem MM (pu : Af) (M : Nat) {a b : List Int} (hab : a.length = b.length) (ha : a.length < 900000) (f1 f2 : Nat) : ∀ (d w i : Nat), i + d = a.length → d < w →
 Qu pu M w (sl f1 a) (sl f2 b) (.ofNat i) = some (.bool (G5 (a.drop i) (b.drop i)))
 | _,0,_,_,h=>by omega
 | 0, w + 1, i, hd, _ => by
  show OP pu M (Qu pu M w) (sl f1 a) (sl f2 b) (.ofNat i) = _
  unfold OP
  simp only [I4,Fb (show ¬ i < a.length from by omega),AA,List.drop_eq_nil_of_le (show a.length≤i by omega)]
  rfl
 | d + 1, w + 1, i, hd, hw => by
  have h1:i < a.length:=by omega
  have h2:i < b.length:=by omega
  show OP pu M (Qu pu M w) (sl f1 a) (sl f2 b) (.ofNat i) = _
  unfold OP
  simp only [I4,GX,FK h1,Ak,Cx,Ac,Dy h1,Dy h2,Pg h1,Pg h2,BP,Cs,DC i (by omega),MM pu M hab ha f1 f2 d w (i + 1) (by omega) (by omega),List.drop_eq_getElem_cons h1,List.drop_eq_getElem_cons h2,G5,CY]
  by_cases h:a[i] = b[i] <;> simp [h]
theorem p54 (k:Nat) (args:List Value):AQ (k + 1) 54 args = m54 (AQ k) L args:=by kernel_rfl
theorem QH (n f1 f2:Nat) {a b:List Int} (hab:a.length = b.length) (ha:a.length < 900000):AQ (n + 1) 54 [S f1 a,S f2 b] = some (.bool (G5 a b)):=by
 rw [p54]
 exact MM (AQ n) L hab ha f1 f2 a.length L 0 (by omega) (by show _ < 1000000;omega)
def TV (x y:Int):Int:=if x < y then -1 else if y < x then 1 else 0
theorem p90 (k:Nat) (args:List Value):AQ (k + 1) 90 args = m90 (AQ k) L args:=by kernel_rfl
theorem Abi (k:Nat) (args:List Value):AQ (k + 1) 101 args = eX (AQ k) L args:=by kernel_rfl
theorem AbC (n:Nat) (x:Int):AQ (n + 1) 101 [I x] = some (.bool false):=by
 rw [Abi]
 show some (Value.bool (nt (Bd x x))) = _
 rw [Cs,decide_eq_true rfl];rfl
theorem mE (n:Nat) (x y:Int):AQ (n + 2) 90 [I x,I y] = some (I (TV x y)):=by
 rw [p90]
 unfold m90 Aa2 TV
 simp only [Dj,EG,BP,Ac,AbC,BU,AA,CY]
 by_cases h1:x < y
 ·simp [h1]
 ·by_cases h2:y < x <;> simp [h1,h2]
def cmpL (a b:List Int):Int:=if G5 a b then -1 else if G5 b a then 1 else 0
theorem mF (a b:List Int):AY (cmpL a b) 0 = G5 a b:=by
 rw [CY]
 unfold cmpL
 cases G5 a b <;> cases G5 b a <;> rfl
theorem mG {x y:Int} (h:x ≠ y) (a b:List Int):TV x y = cmpL (x :: a) (y :: b)∧TV x y ≠ 0:=by
 unfold TV cmpL G5
 rw [if_neg h,if_neg (Ne.symm h)]
 by_cases h1:x < y
 ·rw [if_pos h1,if_pos (decide_eq_true h1)];exact ⟨rfl,by decide⟩
 ·rw [if_neg h1,if_pos (show y < x by omega),if_neg (by simpa using h1),if_pos (by simp;omega)];exact ⟨rfl,by decide⟩
theorem ZP (x:Int) (a b:List Int):cmpL (x :: a) (x :: b) = cmpL a b:=by
 unfold cmpL
 simp only [G5,if_true]
theorem p70 (k:Nat) (args:List Value):AQ (k + 1) 70 args = m70 (AQ k) L args:=by kernel_rfl
theorem UT (n M : Nat) {a b : List Int} (hab : a.length = b.length) (ha : a.length < 900000) (f1 f2 : Nat) : ∀ (d w i : Nat), i + d = a.length → d < w →
 Qv (AQ (n + 2)) M w (sl f1 a) (sl f2 b) (sl f1 a) (.ofNat a.length) (.ofNat i) = some (I (cmpL (a.drop i) (b.drop i)))
 | _,0,_,_,h=>by omega
 | 0, w + 1, i, hd, _ => by
  show OT (AQ (n + 2)) M (Qv (AQ (n + 2)) M w) (sl f1 a) (sl f2 b) (sl f1 a) (.ofNat a.length) (.ofNat i) = _
  unfold OT Us
  simp only [I4,Fb (show ¬ i < a.length from by omega),Fb (show ¬ a.length < b.length from by omega),AA,List.drop_eq_nil_of_le (show a.length≤i by omega),List.drop_eq_nil_of_le (show b.length≤i by omega)]
  rfl
 | d + 1, w + 1, i, hd, hw => by
  have h1:i < a.length:=by omega
  have h2:i < b.length:=by omega
  show OT (AQ (n + 2)) M (Qv (AQ (n + 2)) M w) (sl f1 a) (sl f2 b) (sl f1 a) (.ofNat a.length) (.ofNat i) = _
  unfold OT
  simp only [I4,GX,FK h1,FK h2,Ak,Cx,Ac,Dy h1,Dy h2,Pg h1,Pg h2,BP,Cs,DC i (by omega),UT n M hab ha f1 f2 d w (i + 1) (by omega) (by omega),List.drop_eq_getElem_cons h1,List.drop_eq_getElem_cons h2,mE,show nt true = false from rfl,AA]
  by_cases h:a[i] = b[i]
  ·rw [h,ZP,show TV b[i] b[i] = 0 from by unfold TV;rw [if_neg (by omega),if_neg (by omega)]];rfl
  ·obtain ⟨h3, h4⟩ := mG h (a.drop (i + 1)) (b.drop (i + 1))
   rw [decide_eq_false h4,h3];rfl
theorem Xc (n f1 f2:Nat) {a b:List Int} (hab:a.length = b.length) (ha:a.length < 900000):AQ (n + 3) 70 [S f1 a,S f2 b] = some (I (cmpL a b)):=by
 rw [p70]
 exact UT n L hab ha f1 f2 a.length L 0 (by omega) (by show _ < 1000000;omega)
end Go.BkQ
set_option maxRecDepth 100000
set_option maxHeartbeats 4000000
namespace Go.BkQ
open Go Go.Sp Go.BkYM
noncomputable def RW (l:List (List Int)):List Value:=l.map fun x=>Sl.v 1 (sl 0 x)
theorem Pm (l:List (List Int)):len (RW l) = l.length:=by rw [AV];simp [RW]
theorem iH (l m:List (List Int)):RW (l ++ m) = RW l ++ RW m:=by simp [RW]
theorem ZQ (f:Nat) (x:List Int):Ah (Sl.v 1 (sl f x)) = true:=rfl
theorem BO (l:List (List Int)):Au Ah (RW l) = true:=by
 rw [Bh,List.all_eq_true]
 intro v hv
 obtain ⟨x,_,rfl⟩:=List.mem_map.1 hv
 exact ZQ 0 x
theorem Xd {l:List (List Int)} {i:Nat} (h:i < l.length):AL (RW l) (0 + i * 1) = some (Sl.v 1 (sl 0 l[i])):=by
 rw [BZ,Nat.zero_add,Nat.mul_one];simp [RW,h]
theorem iI {l:List (List Int)} {i:Nat} (x:List Int) (h:i < l.length):BM ([(Sl.v 1 (sl 0 x))]:List Value) (0 + i * 1) (RW l) = RW (l.set i x):=by
 rw [Nat.zero_add,Nat.mul_one,SI _ _ _ (by simpa [RW] using h)];simp [RW,List.map_set]
theorem UU (j:Nat) (h:j < 1000000):Aj .i64 (Int.sub (Int.ofNat (j + 1)) 1) = Int.ofNat j:=by
 rw [show Int.sub (Int.ofNat (j + 1)) 1 = (j:Int) from by show ((j + 1:Nat):Int) - 1 = j;omega,Oe _ (by omega) (by omega)];rfl
theorem iJ {i n:Nat} (h:i < n):an (Nat.ble ((0 + i * 1) + 1) n) true = true:=by
 rw [CF,ble_eq,decide_eq_true (by omega)];rfl
theorem mH {α:Type} {l:List α} (h:l ≠ []):MQ l = false:=by
 cases l with
 | nil=>exact absurd rfl h
 | cons a l=>rfl
def FN : Nat → List (List Int) → List (List Int)
 | 0,l=>l
 | j + 1,l=>if G5 (l.getD (j + 1) []) (l.getD j []) then FN j ((l.set (j + 1) (l.getD j [])).set j (l.getD (j + 1) [])) else l
def JN : Nat → Nat → List (List Int) → List (List Int)
 | 0,_,l=>l
 | d + 1,i,l=>JN d (i + 1) (FN i l)
def C8 (m:Nat) (l:List (List Int)):Prop:=∀ x ∈ l,x.length = m
theorem C8.set {m:Nat} {l:List (List Int)} (h:C8 m l) (i:Nat) {x:List Int} (hx:x.length = m):C8 m (l.set i x):=fun y hy=>by
 rcases List.mem_or_eq_of_mem_set hy with h2 | rfl
 ·exact h y h2
 ·exact hx
theorem C8.at {m:Nat} {l:List (List Int)} (h:C8 m l) {i:Nat} (hi:i < l.length):(l[i]).length = m:=h _ (List.getElem_mem hi)
theorem UV : ∀ (j : Nat) (l : List (List Int)), (FN j l).length = l.length
 | 0,_=>rfl
 | j + 1, l => by
  unfold FN
  split
  ·rw [UV j];simp
  ·rfl
theorem QI {m : Nat} : ∀ (j : Nat) {l : List (List Int)}, j < l.length → C8 m l → C8 m (FN j l)
 | 0,_,_,h=>h
 | j + 1, l, hj, h => by
  unfold FN
  have e1:l.getD (j + 1) [] = l[j + 1]:=by simp [List.getD_eq_getElem?_getD,hj]
  have e2:l.getD j [] = l[j]:=by simp [List.getD_eq_getElem?_getD,show j < l.length by omega]
  split
  ·refine QI j (by simp; omega) ((h.set _ ?_).set _ ?_)
   ·rw [e2];exact h.at _
   ·rw [e1];exact h.at _
  ·exact h
abbrev IhS:=Nat→Nat→Int→Int→Int→List Value→Option Value
theorem QJ (k M : Nat) (ih0 : IhS) {m : Nat} (hm : m < 900000) {c i n : Nat} (hi : i < 999999) : ∀ (j w : Nat) {l : List (List Int)}, l.length = n → j < n → n < 900000 → C8 m l → j < w →
 Gm (AQ (k + 3)) M ih0 w n c 0 (.ofNat n) (.ofNat i) (.ofNat j) (RW l) = ih0 n c 0 (.ofNat n) (.ofNat (i + 1)) (RW (FN j l))
 | _,0,_,_,_,_,_,h=>by omega
 | 0, w + 1, l, hl, hj, hn, he, hw => by
  show Gl (AQ (k + 3)) M ih0 (Gm (AQ (k + 3)) M ih0 w) n c 0 (.ofNat n) (.ofNat i) (.ofNat 0) (RW l) = _
  unfold Gl Hz Je
  simp only [show AY 0 (Int.ofNat 0) = false from rfl,AA,BO,Ak,DC i (by omega),FN]
 | j + 1, w + 1, l, hl, hj, hn, he, hw => by
  have h1:j + 1 < l.length:=by omega
  have h0:j < l.length:=by omega
  have e1:l.getD (j + 1) [] = l[j + 1]:=by simp [List.getD_eq_getElem?_getD,h1]
  have e2:l.getD j [] = l[j]:=by simp [List.getD_eq_getElem?_getD,h0]
  have hc:=Xc k 0 0 (a:=l[j + 1]) (b:=l[j]) (by rw [he.at,he.at]) (by rw [he.at];exact hm)
  have hc:AQ (k + 3) 70 [Sl.v 1 (sl 0 l[j + 1]),Sl.v 1 (sl 0 l[j])] = some (I (cmpL l[j + 1] l[j])):=hc
  show Gl (AQ (k + 3)) M ih0 (Gm (AQ (k + 3)) M ih0 w) n c 0 (.ofNat n) (.ofNat i) (.ofNat (j + 1)) (RW l) = _
  unfold Gl Hz Je
  simp only [show AY 0 (Int.ofNat (j + 1)) = true from rfl,Ak,Cx,Ac,Dy hj,Dy (show j < n by omega),Xd h1,Xd h0,Dc,UU j (by omega),hc,BP,BO,mF,FN,e1,e2,DC i (by omega),iI l[j] h1,Pm,List.length_set,iI (l:=l.set (j + 1) l[j]) l[j + 1] (by simp;omega),iJ h1,iJ h0]
  cases h:G5 l[j + 1] l[j] with
  | true =>
   rw [Ak,if_pos rfl]
   exact QJ k M ih0 hm hi j w (by simp [hl]) (by omega) hn ((he.set _ (he.at h0)).set _ (he.at h1)) (by omega)
  | false=>rw [AA];rfl
theorem QK (k M : Nat) {m : Nat} (hm : m < 900000) {c n : Nat} (hM : n < M) : ∀ (d w i : Nat) {l : List (List Int)}, l.length = n → i + d = n → 1 ≤ i → n < 900000 → C8 m l → d < w →
 DD (AQ (k + 3)) M w n c 0 (.ofNat n) (.ofNat i) (RW l) = some (.tuple ⟨[.tuple ⟨[]⟩,.agg ⟨RW (JN d i l)⟩]⟩)
 | _,0,_,_,_,_,_,_,_,h=>by omega
 | 0, w + 1, i, l, hl, hd, h1, hn, he, hw => by
  show Gn (AQ (k + 3)) M (DD (AQ (k + 3)) M w) n c 0 (.ofNat n) (.ofNat i) (RW l) = _
  unfold Gn
  simp only [BO,Ak,Fb (show ¬ i < n by omega),AA,JN]
 | d + 1, w + 1, i, l, hl, hd, h1, hn, he, hw => by
  show Gn (AQ (k + 3)) M (DD (AQ (k + 3)) M w) n c 0 (.ofNat n) (.ofNat i) (RW l) = _
  unfold Gn
  simp only [BO,Ak,FK (show i < n by omega),JN]
  rw [QJ k M _ hm (by omega) i M hl (by omega) hn he (by omega)]
  exact QK k M hm hM d w (i + 1) (by rw [UV,hl]) (by omega) (by omega) hn (QI i (by omega) he) (by omega)
def DR (l:List (List Int)):List (List Int):=JN (l.length - 1) 1 l
theorem V5 (k:Nat) (args:List Value):AQ (k + 1) 11020 args = LQ (AQ k) L args:=by kernel_rfl
theorem V4 (k:Nat) (args:List Value):AQ (k + 1) 10940 args = LP (AQ k) L args:=by kernel_rfl
theorem V3 (k:Nat) (args:List Value):AQ (k + 1) 10820 args = LM (AQ k) L args:=by kernel_rfl
noncomputable def jL (n c:Nat):Value:=.slice (some ⟨1,0,some 1⟩) n c
theorem ZR (k : Nat) {m : Nat} (hm : m < 900000) {c : Nat} {l : List (List Int)} (hl : 1 ≤ l.length) (hn : l.length < 900000) (he : C8 m l) :
 AQ (k + 4) 11020 [jL l.length c,I 0,I (.ofNat l.length),.func (.func 70) ⟨[]⟩ ⟨[]⟩,.agg ⟨RW l⟩] = some (.tuple ⟨[.tuple ⟨[]⟩,.agg ⟨RW (DR l)⟩]⟩):=by
 rw [V5]
 show Jv (AQ (k + 3)) L l.length c 0 (.ofNat l.length) (RW l) = _
 unfold Jv
 rw [BO,Ak]
 exact QK k L hm (by show _ < 1000000;omega) (l.length - 1) L 1 rfl (by omega) (by omega) hn he (by show _ < 1000000;omega)
end Go.BkQ
set_option maxRecDepth 100000
set_option maxHeartbeats 4000000
namespace Go.BkQ
open Go Go.Sp Go.BkYM
def iK (a b:List Int):Prop:=G5 b a = false
theorem L6 {m:Nat} {a b c:List Int} (ha:a.length = m) (hb:b.length = m) (hc:c.length = m) (h1:iK a b) (h2:iK b c):iK a c:=by
 unfold iK at *
 by_cases e:a = b
 ·subst e;exact h2
 ·have h3 := K7 (by rw [ha, hb]) (Ne.symm e) h1
  by_cases e2:b = c
  ·subst e2;exact h1
  ·have h4 := K7 (by rw [hb, hc]) (Ne.symm e2) h2
   exact K8 (HY h3 h4)
def Fp (l:List (List Int)):Prop:=l.Pairwise iK
theorem QL {m : Nat} : ∀ (p : List (List Int)) (x : List Int) (t : List (List Int)), Fp p → C8 m p → x.length = m →
 ∃ q,FN p.length (p ++ x :: t) = q ++ t∧q.Perm (x :: p)∧Fp q:=by
 intro p
 induction h:p.length generalizing p with
 | zero =>
  intro x t _ _ _
  obtain rfl:=List.eq_nil_of_length_eq_zero h
  exact ⟨[x],rfl,List.Perm.refl _,List.pairwise_singleton _ _⟩
 | succ j ih =>
  intro x t hs he hx
  obtain ⟨p',y,rfl⟩:∃ p' y,p = p' ++ [y]:=⟨p.dropLast,p.getLast (by intro e;subst e;simp at h),(List.dropLast_concat_getLast _).symm⟩
  have hj:p'.length = j:=by simpa using h
  subst hj
  have hs':Fp p':=(List.pairwise_append.1 hs).1
  have hle:∀ z ∈ p',iK z y:=fun z hz=>(List.pairwise_append.1 hs).2.2 z hz y List.mem_cons_self
  have he':C8 m p':=fun z hz=>he z (List.mem_append_left _ hz)
  have hy:y.length = m:=he y (by simp)
  have e1:(p' ++ [y] ++ x :: t).getD (p'.length + 1) [] = x:=by simp [List.getD_eq_getElem?_getD]
  have e2:(p' ++ [y] ++ x :: t).getD p'.length [] = y:=by simp [List.getD_eq_getElem?_getD]
  unfold FN
  rw [e1,e2]
  by_cases hlt:G5 x y = true
  ·rw [if_pos hlt]
   have e3:((p' ++ [y] ++ x :: t).set (p'.length + 1) y).set p'.length x = p' ++ x :: (y :: t):=by
    rw [List.append_assoc]
    simp
   rw [e3]
   obtain ⟨q,h1,h2,h3⟩:=ih p' rfl x (y :: t) hs' he' hx
   refine ⟨q ++ [y],by rw [h1];simp,?_,?_⟩
   ·exact (h2.append_right [y]).trans (by simp)
   ·refine List.pairwise_append.2 ⟨h3, List.pairwise_singleton _ _, fun a ha b hb => ?_⟩
    obtain rfl:=List.mem_singleton.1 hb
    rcases List.mem_cons.1 (h2.mem_iff.1 ha) with rfl | ha
    ·exact K8 hlt
    ·exact hle a ha
  ·rw [if_neg hlt]
   refine ⟨p' ++ [y] ++ [x],by simp,List.perm_append_comm (l₁:=p' ++ [y]) (l₂:=[x]),?_⟩
   refine List.pairwise_append.2 ⟨hs,List.pairwise_singleton _ _,fun a ha b hb=>?_⟩
   obtain rfl:=List.mem_singleton.1 hb
   have hyx:iK y b:=by unfold iK;simpa using hlt
   rcases List.mem_append.1 ha with ha | ha
   ·exact L6 (he' a ha) hy hx (hle a ha) hyx
   ·obtain rfl := List.mem_singleton.1 ha
    exact hyx
theorem Pn {m : Nat} : ∀ (d i : Nat) (p t : List (List Int)), p.length = i → t.length = d → Fp p → C8 m (p ++ t) → (JN d i (p ++ t)).Perm (p ++ t) ∧ Fp (JN d i (p ++ t))
 | 0, i, p, t, _, ht, hs, _ => by
  obtain rfl:=List.eq_nil_of_length_eq_zero ht
  rw [List.append_nil]
  exact ⟨List.Perm.refl _,hs⟩
 | d + 1, i, p, x :: t, hi, ht, hs, he => by
  subst hi
  have he1:C8 m p:=fun z hz=>he z (List.mem_append_left _ hz)
  obtain ⟨q,h1,h2,h3⟩:=QL p x t hs he1 (he x (by simp))
  show (JN d (p.length + 1) (FN p.length (p ++ x :: t))).Perm _∧Fp (JN d (p.length + 1) (FN p.length (p ++ x :: t)))
  rw [h1]
  have hp:(q ++ t).Perm (p ++ x :: t):=(h2.append_right t).trans (by simpa using List.perm_middle.symm)
  obtain ⟨h4,h5⟩:=Pn d (p.length + 1) q t (by rw [h2.length_eq];rfl) (by simpa using ht) h3 (fun z hz=>he z (hp.mem_iff.1 hz))
  exact ⟨h4.trans hp,h5⟩
theorem Kg {m:Nat} {l:List (List Int)} (he:C8 m l):(DR l).Perm l∧Fp (DR l):=by
 cases l with
 | nil=>exact ⟨List.Perm.refl _,List.Pairwise.nil⟩
 | cons x t=>exact Pn t.length 1 [x] t rfl rfl (List.pairwise_singleton _ _) he
theorem Po {m:Nat} {l:List (List Int)} (he:C8 m l):C8 m (DR l):=fun x hx=>he x ((Kg he).1.mem_iff.1 hx)
theorem QM {m:Nat} {l:List (List Int)} (he:C8 m l):(DR l).length = l.length:=(Kg he).1.length_eq
theorem iL {c n:Nat} {l:List (List Int)} (h:1≤l.length):Dp (Nat.ble 2 c) (MQ (RW l)) = Nat.ble 2 c:=by
 rw [mH (by intro e;have:=congrArg List.length e;simp [RW] at this;rw [this] at h;simp at h)]
 cases Nat.ble 2 c <;> rfl
theorem AbD (k : Nat) {m : Nat} (hm : m < 900000) {c : Nat} (z : Int) {l : List (List Int)} (hl : 1 ≤ l.length) (hn : l.length ≤ 12) (hc : 2 ≤ c) (he : C8 m l) :
 AQ (k + 5) 10940 [jL l.length c,I 0,I (.ofNat l.length),I z,.func (.func 70) ⟨[]⟩ ⟨[]⟩,.agg ⟨RW l⟩] = some (.tuple ⟨[.tuple ⟨[]⟩,.agg ⟨RW (DR l)⟩]⟩):=by
 rw [V4]
 show bb (Au Ah (RW l)) (Jc (AQ (k + 4)) L (Jd (AQ (k + 4)) L 999999) l.length c 0 (.ofNat l.length) z true true (RW l)) none = _
 rw [BO,Ak]
 have h12:nt (AY (12:Int) (Aj .i64 (Int.sub (Int.ofNat l.length) 0))) = true:=by
  rw [show Int.sub (Int.ofNat l.length) 0 = (l.length:Int) from by show (l.length:Int) - 0 = _;omega,Oe _ (by omega) (by omega),CY,decide_eq_false (by omega)];rfl
 have hi:=ZR k hm (c:=c) hl (by omega) he
 unfold jL at hi
 unfold Jc
 simp only [BO,Ak,h12,iL (c:=c) (n:=0) hl,ble_eq,decide_eq_true hc]
 rw [show ((0:Int)) = (0:Int) from rfl,hi]
 show bb (MC (.tuple ⟨[]⟩)) (bb (Au Ah (RW (DR l))) (bb (Au Ah (RW (DR l))) _ none) none) none = _
 simp only [BO,Ak];rfl
noncomputable def l13:List Nat:=[0,1,2,3,4,5,6,7,8,9,10,11,12]
noncomputable def Ah8 (n:Nat):Nat:=bb (Nat.beq n 0) 0 (bb (Nat.ble n 1) 1 (bb (Nat.ble n 3) 2 (bb (Nat.ble n 7) 3 4)))
theorem iM (k:Nat):AP (fun n=>AQ (k + 4) 95 [.int .u64 (Aj .u64 (.ofNat n))]) l13 = AP (fun n=>some (I (.ofNat (Ah8 n)))) l13:=by kernel_rfl
theorem mI {n:Nat} (h:n≤12):n ∈ l13:=by
 show n ∈ List.range 13
 exact List.mem_range.2 (by omega)
theorem mJ (k : Nat) {m : Nat} (hm : m < 900000) {c : Nat} {l : List (List Int)} (hl : 1 ≤ l.length) (hn : l.length ≤ 12) (hc : 2 ≤ c) (he : C8 m l) :
 AQ (k + 6) 10820 [jL l.length c,.func (.func 70) ⟨[]⟩ ⟨[]⟩,.agg ⟨RW l⟩] = some (.tuple ⟨[.tuple ⟨[]⟩,.agg ⟨RW (DR l)⟩]⟩):=by
 rw [V3]
 have h1:=Dn (iM (k + 1)) l.length (mI hn)
 have h2:=AbD k hm (c:=c) (Int.ofNat (Ah8 l.length)) hl hn hc he
 unfold jL at h2
 show bb (Au Ah (RW l)) (oo (AQ (k + 1 + 4) 95 [(.int .u64 (Aj .u64 (Int.ofNat l.length)))]) none fun v7248=>(oo (Bi .i64 v7248) none fun x7250=>(bb (Dp (Nat.ble 2 c) (MQ (RW l))) (bb (Au Ah (RW l)) (oo (AQ (k + 5) 10940 [(.slice (some ⟨1,0,some 1⟩) l.length c),(.int .i64 (0:Int)),(.int .i64 (Int.ofNat l.length)),(.int .i64 x7250),(.func (.func 70) ⟨[]⟩ ⟨[]⟩),(.agg ⟨RW l⟩)]) none _) none) none))) none = _
 rw [BO,Ak,h1,Ac,BP,Ac,iL (n:=0) hl,ble_eq,decide_eq_true hc,Ak,Ak,h2]
 show bb (MC (.tuple ⟨[]⟩)) (bb (Au Ah (RW (DR l))) (bb (Au Ah (RW (DR l))) _ none) none) none = _
 rw [BO];rfl
end Go.BkQ
set_option maxRecDepth 100000
set_option maxHeartbeats 4000000
namespace Go.BkQ
open Go Go.Sp Go.BkYM
theorem Yy {l:List (List Int)} {i:Nat} {x:List Int} (h:l[i]? = some x) (a:Nat) (ha:a = i):AL (RW l) a = some (Sl.v 1 (sl 0 x)):=by
 subst ha
 rw [BZ];simp [RW,h]
def Ez : List Int → List (List Int) → List (List Int)
 | _,[]=>[]
 | y,z :: r=>if z = y then Ez y r else z :: Ez z r
def MS : List (List Int) → List (List Int)
 | []=>[]
 | x :: r=>x :: Ez x r
theorem Pp : ∀ (y : List Int) (r : List (List Int)), (Ez y r).length ≤ r.length
 | _,[]=>Nat.le_refl _
 | y, z :: r => by
  unfold Ez
  split
  ·have:=Pp y r;simp;omega
  ·have:=Pp z r;simp;omega
noncomputable def zR (d:Nat):List Value:=AF ([(.slice none 0 0)]:List Value) d
theorem Xe (d:Nat):zR d = List.replicate d (.slice none 0 0):=by
 apply List.ext_getElem?
 intro i
 unfold zR
 by_cases h:i < d
 ·rw [Eu _ (by simp) _ _ (by simpa using h)]
  simp [h,Nat.mod_one]
 ·rw [List.getElem?_eq_none (by rw [BJ];simp;omega),List.getElem?_eq_none (by simp;omega)]
theorem QN (d:Nat):Au Ah (zR d) = true:=by
 rw [Xe,Bh,List.all_eq_true]
 intro v hv
 rw [List.eq_of_mem_replicate hv];rfl
theorem ZT (d:Nat):Au D6 (zR d) = true:=by
 rw [Xe,Bh,List.all_eq_true]
 intro v hv
 rw [List.eq_of_mem_replicate hv];rfl
theorem UW {α:Type} (p:α→Bool) (a b:List α) (ha:Au p a = true) (hb:Au p b = true):Au p (a ++ b) = true:=by
 rw [Bh] at *
 rw [List.all_append,ha,hb];rfl
theorem UX {α : Type} : ∀ (a : List α) (ys b : List α), ys.length = b.length → BM ys a.length (a ++ b) = a ++ ys
 | [], ys, b, h => by
  show Br ys (Am (len ys) b) = _
  rw [BH,Bz,AV,h,List.drop_length];simp
 | x :: a, ys, b, h => by
  show x :: BM ys a.length (a ++ b) = _
  rw [UX a ys b h];rfl
abbrev IhC:=Nat→Nat→Int→List Value→Option Value
theorem Kh (k M : Nat) (ih0 : IhC) {m : Nat} (hm : m < 900000) {n c c2 base : Nat} (hn : n < 900000) (hc : n ≤ c / 2) : ∀ (R : List (List Int)) (w k2 : Nat) (K G : List (List Int)) (y : List Int),
 G.getLast? = some y→K.length + G.length = base + k2→1≤k2→K.length + G.length + R.length = n→C8 m (K ++ G ++ R)→R.length < w →
 ∃ c',Gq (AQ (k + 1)) M ih0 w n c (.ofNat K.length) base (n - base) c2 (.ofNat k2) (RW (K ++ G ++ R)) = some (.tuple ⟨[jL (K ++ Ez y R).length c',.agg ⟨RW (K ++ Ez y R) ++ zR (n - (K ++ Ez y R).length)⟩]⟩)
 | _,0,_,_,_,_,_,_,_,_,_,h=>by omega
 | [], w + 1, k2, K, G, y, hy, hb, h1, hl, he, hw => by
  have hG:1≤G.length:=by
   cases G with
   | nil=>cases hy
   | cons a G=>simp
  have hl':K.length + G.length = n:=by simpa using hl
  have hz:(zR (n - K.length)).length = G.length:=by rw [Xe,List.length_replicate];omega
  have hs:BM (zR (n - K.length)) (0 + K.length * 1) (RW (K ++ G)) = RW K ++ zR (n - K.length):=by
   rw [iH,Nat.zero_add,Nat.mul_one,show K.length = (RW K).length from by simp [RW]]
   rw [UX _ _ _ (by simp [RW] at *;omega)]
  refine ⟨2 * (c / 2) + bb (Dp false (Nat.beq (c % 2) 1)) 1 0,?_⟩
  show Gp (AQ (k + 1)) M ih0 (Gq (AQ (k + 1)) M ih0 w) n c (.ofNat K.length) base (n - base) c2 (.ofNat k2) (RW (K ++ G ++ [])) = _
  unfold Gp KW
  rw [List.append_nil]
  have hs':BM (AF ([(.slice none 0 0)]:List Value) (n - K.length)) (0 + K.length * 1) (RW (K ++ G)) = RW K ++ zR (n - K.length):=hs
  simp only [BO,Ak,Fb (show ¬ k2 < n - base by omega),AA,Cx,Ac,hs']
  rw [show Au D6 (AF ([(.slice none 0 0)]:List Value) (n - K.length)) = true from ZT _,show len (AF ([(.slice none 0 0)]:List Value) (n - K.length)) = G.length from by rw [AV];exact hz]
  rw [ble_eq,decide_eq_true (show K.length≤n by omega),show Nat.beq (n - K.length) 0 = false from by cases e:Nat.beq (n - K.length) 0 with | false=>rfl | true=>have:=Nat.eq_of_beq_eq_true e;omega,Pm,ble_eq,decide_eq_true (show 0 + K.length * 1 + G.length≤(K ++ G).length by simp),UW _ _ _ (BO K) (QN _),ble_eq,decide_eq_true (show K.length≤c / 2 by omega)]
  show some _ = _
  rw [show K ++ Ez y [] = K from by simp [Ez]];rfl
 | z :: R, w + 1, k2, K, G, y, hy, hb, h1, hl, he, hw => by
  have hG:1≤G.length:=by
   cases G with
   | nil=>cases hy
   | cons a G=>simp
  have hrl:(z :: R).length = R.length + 1:=rfl
  have g1:(K ++ G ++ z :: R)[base + k2]? = some z:=by
   rw [List.getElem?_append_right (by simp;omega)]
   simp [show base + k2 - (K.length + G.length) = 0 by omega]
  have g2:(K ++ G ++ z :: R)[base + (k2 - 1)]? = some y:=by
   rw [List.getElem?_append_left (by simp;omega),List.getElem?_append_right (by omega)]
   rw [List.getLast?_eq_getElem?] at hy
   rw [←hy];congr 1;omega
  have e1:=Yy g1 (base + k2 * 1) (by omega)
  have e2:=Yy g2 (base + (k2 - 1) * 1) (by omega)
  have hz:z.length = m:=he z (by simp)
  have hq:=UO k 0 0 (a:=z) (b:=y) (by rw [hz];exact hm)
  have hq:AQ (k + 1) 49 [Sl.v 1 (sl 0 z),Sl.v 1 (sl 0 y)] = some (.bool (decide (z = y))):=hq
  obtain ⟨k3,rfl⟩:∃ k3,k2 = k3 + 1:=⟨k2 - 1,by omega⟩
  have e3:(K ++ G ++ z :: R).set K.length z = (K ++ [z]) ++ (G.tail ++ [z]) ++ R:=by
   cases G with
   | nil=>cases hy
   | cons g G=>simp
  have hKl:K.length < (K ++ G ++ z :: R).length:=by simp;omega
  have e4:=iI (l:=K ++ G ++ z :: R) z hKl
  show ∃ c',Gp (AQ (k + 1)) M ih0 (Gq (AQ (k + 1)) M ih0 w) n c (.ofNat K.length) base (n - base) c2 (.ofNat (k3 + 1)) (RW (K ++ G ++ z :: R)) = _
  unfold Gp Jg
  rw [Nat.add_sub_cancel] at e2
  simp only [BO,Ak,FK (show k3 + 1 < n - base by omega),Cx,Ac,Dy (show k3 + 1 < n - base by omega),Dy (show k3 < n - base by omega),e1,e2,Dc,UU k3 (by omega),hq,BU,Dy (show K.length < n by omega),Pm,iJ hKl,e4,DC (k3 + 1) (by omega),DC K.length (by omega)]
  by_cases h:z = y
  ·rw [decide_eq_true h, show nt true = false from rfl, AA]
   subst h
   have ih:=Kh k M ih0 hm hn hc (c2:=c2) (base:=base) R w (k3 + 1 + 1) K (G ++ [z]) z (by simp) (by simp;omega) (by omega) (by simp;omega) (by simpa using he) (by omega)
   rw [show Ez z (z :: R) = Ez z R from by simp [Ez]]
   simpa using ih
  ·rw [decide_eq_false h, show nt false = true from rfl, Ak, e3]
   have ih:=Kh k M ih0 hm hn hc (c2:=c2) (base:=base) R w (k3 + 1 + 1) (K ++ [z]) (G.tail ++ [z]) z (by simp) (by simp;omega) (by omega) (by simp;omega) (fun x hx=>by
    refine he x ?_
    simp only [List.mem_append,List.mem_singleton,List.mem_cons,List.not_mem_nil,or_false] at hx ⊢
    rcases hx with ((hx | hx) | (hx | hx)) | hx
    ·exact .inl (.inl hx)
    ·exact .inr (.inl hx)
    ·exact .inl (.inr (List.mem_of_mem_tail hx))
    ·exact .inr (.inl hx)
    ·exact .inr (.inr hx)) (by omega)
   rw [show Ez y (z :: R) = z :: Ez z R from by simp [Ez,h]]
   simpa [List.append_assoc] using ih
theorem Pq (k M : Nat) {m : Nat} (hm : m < 900000) {n c : Nat} (hn : n < 900000) (hc : n ≤ c / 2) (hM : n < M) : ∀ (R : List (List Int)) (w : Nat) (P : List (List Int)) (x : List Int),
 P.length + 1 + R.length = n→C8 m (P ++ x :: R)→R.length < w →
 ∃ c' Z,CX (AQ (k + 1)) M w n c (.ofNat (P.length + 1)) (RW (P ++ x :: R)) = some (.tuple ⟨[jL (P ++ x :: Ez x R).length c',.agg ⟨RW (P ++ x :: Ez x R) ++ Z⟩]⟩)∧Au Ah Z = true
 | _,0,_,_,_,_,h=>by omega
 | [], w + 1, P, x, hl, he, hw => by
  refine ⟨c,[],?_,rfl⟩
  have hl:P.length + 1 = n:=by simpa using hl
  show Gr (AQ (k + 1)) M (CX (AQ (k + 1)) M w) n c (.ofNat (P.length + 1)) (RW (P ++ [x])) = _
  unfold Gr Jf
  simp only [BO,Ak,Fb (show ¬ P.length + 1 < n by omega),Fb (show ¬ n < n by omega),AA,Ez,List.append_nil,List.length_append,List.length_singleton,hl]
  rfl
 | z :: R, w + 1, P, x, hl, he, hw => by
  have hrl:(z :: R).length = R.length + 1:=rfl
  have g1:(P ++ x :: z :: R)[P.length + 1]? = some z:=by simp
  have g2:(P ++ x :: z :: R)[P.length]? = some x:=by simp
  have e1:=Yy g1 (0 + (P.length + 1) * 1) (by omega)
  have e2:=Yy g2 (0 + P.length * 1) (by omega)
  have hz:z.length = m:=he z (by simp)
  have hq:=UO k 0 0 (a:=z) (b:=x) (by rw [hz];exact hm)
  have hq:AQ (k + 1) 49 [Sl.v 1 (sl 0 z),Sl.v 1 (sl 0 x)] = some (.bool (decide (z = x))):=hq
  show ∃ c' Z,Gr (AQ (k + 1)) M (CX (AQ (k + 1)) M w) n c (.ofNat (P.length + 1)) (RW (P ++ x :: z :: R)) = _∧_
  unfold Gr KV
  simp only [BO,Ak,FK (show P.length + 1 < n by omega),Cx,Ac,Dy (show P.length + 1 < n by omega),Dy (show P.length < n by omega),e1,e2,Dc,UU P.length (by omega),hq,BU,DC (P.length + 1) (by omega),ble_eq,decide_eq_true (show P.length + 1≤n by omega)]
  by_cases h:z = x
  ·rw [decide_eq_true h, Ak]
   subst h
   obtain ⟨c',h1⟩:=Kh k M (CX (AQ (k + 1)) M w) hm hn hc (c2:=(2 * (c / 2 - (P.length + 1)) + bb (Dp false (Nat.beq (c % 2) 1)) 1 0)) (base:=P.length + 1) R M 1 (P ++ [z]) [z] z rfl (by simp) (Nat.le_refl _) (by simp;omega) (by simpa using he) (by omega)
   refine ⟨c',zR (n - (P ++ z :: Ez z R).length),?_,QN _⟩
   rw [show Ez z (z :: R) = Ez z R from by simp [Ez]]
   have e5:(P ++ [z]).length = P.length + 1:=by simp
   rw [e5] at h1
   rw [show (0:Nat) + (P.length + 1) * 1 = P.length + 1 from by omega]
   simpa [List.append_assoc] using h1
  ·rw [decide_eq_false h, AA]
   rw [show Ez x (z :: R) = z :: Ez z R from by simp [Ez,h]]
   have ih:=Pq k M hm hn hc hM R w (P ++ [x]) z (by simp;omega) (by simpa using he) (by omega)
   have e5:(P ++ [x]).length + 1 = P.length + 1 + 1:=by simp
   rw [e5] at ih
   simpa [List.append_assoc] using ih
theorem V6 (k:Nat) (args:List Value):AQ (k + 1) 10830 args = LU (AQ k) L args:=by kernel_rfl
theorem Xf (k : Nat) {m : Nat} (hm : m < 900000) {c : Nat} {l : List (List Int)} (hl : 1 ≤ l.length) (hn : l.length < 900000) (hc : l.length ≤ c / 2) (he : C8 m l) :
 ∃ c' Z,AQ (k + 2) 10830 [jL l.length c,.func (.func 49) ⟨[]⟩ ⟨[]⟩,.agg ⟨RW l⟩] = some (.tuple ⟨[jL (MS l).length c',.agg ⟨RW (MS l) ++ Z⟩]⟩)∧Au Ah Z = true:=by
 rw [V6]
 show ∃ c' Z,Jw (AQ (k + 1)) L l.length c (RW l) = _∧_
 unfold Jw
 rw [BO,Ak]
 cases l with
 | nil=>simp at hl
 | cons x r =>
  cases r with
  | nil=>exact ⟨c,[],rfl,rfl⟩
  | cons y r =>
   rw [CY,decide_eq_false (show ¬ Int.ofNat (x :: y :: r).length < 2 by simp;omega),AA]
   exact Pq k L hm hn hc (by show _ < 1000000;omega) (y :: r) L [] x (by simp;omega) he (by simp at hn ⊢;show _ < 1000000;omega)
end Go.BkQ
set_option maxRecDepth 100000
set_option maxHeartbeats 4000000
namespace Go.BkQ
open Go Go.Sp Go.BkYM
theorem Qk {q:List (List Int)} {c:Nat} (hq:q.length≤2000) (hc:c / 2 = q.length) (hc2:c % 2 = 0):GV 1 24 q.length c 1 (RW q) = true:=by
 unfold GV EQ
 rw [Pm,hc,hc2]
 rw [show Nat.ble ((4 * (q.length + 1) + 4096) * 24) 281474976710656 = true from Nat.ble_eq_true_of_le (by omega),show Nat.ble (q.length + 1) q.length = false from by rw [ble_eq];simp,show Nat.ble (0 + q.length * 1) q.length = true from Nat.ble_eq_true_of_le (by omega),show Nat.beq (0 + q.length * 1) q.length = true from by simp]
 rfl
theorem qB (q:List (List Int)) (x:List Int):Br (Am 0 (RW q)) [(Sl.v 1 (sl 0 x))] = RW (q ++ [x]):=by
 rw [BH,Bz,List.drop_zero,iH];rfl
theorem iN (l:List (List Int)) (Z:List Value):Aq (l.length * 1) (Am 0 (RW l ++ Z)) = RW l:=by
 rw [Cg,Bz,List.drop_zero,Nat.mul_one]
 rw [List.take_append_of_le_length (by simp [RW])]
 exact List.take_of_length_le (by simp [RW])
theorem qC (l:List (List Int)) (Z:List Value):an (Nat.ble (0 + l.length * 1) (len (RW l ++ Z))) (Au Ah (RW l)) = true:=by
 rw [BO,AV,List.length_append,show Nat.ble (0 + l.length * 1) ((RW l).length + Z.length) = true from Nat.ble_eq_true_of_le (by simp [RW])];rfl
theorem mK (n c:Nat):KP 1 0 1 (.slice (some ⟨1,0,some 1⟩) n c) = some ⟨n,c⟩:=rfl
theorem iO:MC (.tuple ⟨[]⟩) = true:=rfl
theorem AbE (l:List (List Int)) (Z:List Value):Nat.ble (0 + l.length * 1) (len (RW l ++ Z)) = true:=(Av (qC l Z)).1
noncomputable def SR (l:List (List Int)):Value:=Sl.v 1 ⟨l.length,0,RW l⟩
theorem mM (k M : Nat) {m : Nat} (hm : m < 900000) {c : Nat} {l : List (List Int)} (hl : 1 ≤ l.length) (hn : l.length ≤ 12) (hc : c / 2 = l.length) (he : C8 m l) :
 Qt (AQ (k + 6)) M l.length c (RW l) = some (SR (MS (DR l))):=by
 have h1:=mJ k hm (c:=c) hl hn (by omega) he
 have hs:=QM he
 obtain ⟨c',Z,h2,hZ⟩:=Xf (k + 4) hm (c:=c) (l:=DR l) (by omega) (by omega) (by omega) (Po he)
 rw [hs] at h2
 unfold jL at h1 h2
 have hcl:Au Ah (RW (MS (DR l)) ++ Z) = true:=UW _ _ _ (BO _) hZ
 have hcc:2≤c:=by omega
 have hor:∀ q:List Value,Dp (Nat.ble 2 c) (MQ q) = true:=fun q=>by rw [ble_eq,decide_eq_true hcc];rfl
 unfold Qt
 simp only [hor,Ak,BO,h1,Ac,FW,Dj,EG,iO,RL,h2,mK,hcl,iN,AbE (MS (DR l)) Z]
 rfl
noncomputable def BB (r c:Nat) (x:List Int) (us:List Nat):List (List Int):=us.map fun t=>pick x (cellL r c t)
theorem Gv {r c:Nat} {us ts:List Nat} {x:List Int} (hg:(r,c,us) ∈ Ca) (hs:∀ t ∈ ts,t ∈ us):C8 (r * c) (BB r c x ts):=fun y hy=>by
 obtain ⟨t,ht,rfl⟩:=List.mem_map.1 hy
 rw [Ji,((Cz hg).row t (hs t ht)).2.1]
theorem UY (n M f g : Nat) {r c k : Nat} {us : List Nat} {x : List Int} (hg : (r, c, us) ∈ Ca) (hx : x.length = r * c) (hus : 1 ≤ us.length) : ∀ (d w i cc : Nat) (q : List (List Int)), i + d = us.length → d < w → q = BB r c x (us.take i) → cc / 2 = i → cc % 2 = 0 →
 OL (AQ (n + 6)) M w 0 (KZ r c k f us) (sl g x) i cc (.ofNat us.length) (.ofNat i) (RW q) = some (SR (MS (DR (BB r c x us))))
 | _,0,_,_,_,_,h,_,_,_=>by omega
 | 0, w + 1, i, cc, q, hd, _, hq, hcc, _ => by
  have hp:=Cz hg
  obtain rfl:i = us.length:=by omega
  replace hq:q = BB r c x us:=by rw [hq,List.take_length]
  have hql:q.length = us.length:=by rw [hq];simp [BB]
  show OJ (AQ (n + 6)) M (OL (AQ (n + 6)) M w) 0 (KZ r c k f us) (sl g x) us.length cc (.ofNat us.length) (.ofNat us.length) (RW q) = _
  unfold OJ
  simp only [BO,Ak,Fb (Nat.lt_irrefl us.length),AA]
  have he:C8 (r * c) q:=by rw [hq];exact Gv hg fun t h=>h
  have hrc:r * c≤16:=Nat.mul_le_mul hp.r4 hp.c4
  have h:=mM n M (m:=r * c) (by omega) (c:=cc) (l:=q) (by omega) (by have:=hp.len8;omega) (by omega) he
  rw [hql] at h
  rw [h,hq]
 | d + 1, w + 1, i, cc, q, hd, hw, hq, hcc, hcc2 => by
  have hp:=Cz hg
  have hrc:r * c≤16:=Nat.mul_le_mul hp.r4 hp.c4
  have hi:i < us.length:=by omega
  have hl8:=hp.len8
  have hat:us[i]? = some us[i]:=List.getElem?_eq_getElem hi
  have hmem:us[i] ∈ us:=List.getElem_mem hi
  have hql:q.length = i:=by rw [hq];simp [BB];omega
  obtain ⟨_,q1,q2⟩:=hp.row us[i] hmem
  have htu := ZF (n + 5) g 0 (d0 := I (.ofNat r)) (d1 := I (.ofNat c)) (d2 := I (.ofNat k)) (d3 := Sl.v 1 ⟨len us, f, IB us⟩) (rows := gG r c us) (m := len us) (i := i) (row := cellL r c us[i]) (x := x)
   (by rw [BZ,Nat.mul_one,show gG r c us = us.map fun t=>Iq (cellL r c t) from Cc _ _,List.getElem?_map,hat];rfl) (by rw [AV];exact hi) (by rw [q1,hx]) (fun k hk=>by rw [hx];exact q2 k hk) (by rw [hx];omega)
  have htu:AQ (n + 6) 45 [Cv 0 (KZ r c k f us),Sl.v 1 (sl g x),I (.ofNat i)] = some (Sl.v 1 (sl 0 (pick x (cellL r c us[i])))):=htu
  have hg2:=Qk (q:=q) (c:=cc) (by omega) (by omega) hcc2
  rw [hql] at hg2
  show OJ (AQ (n + 6)) M (OL (AQ (n + 6)) M w) 0 (KZ r c k f us) (sl g x) i cc (.ofNat us.length) (.ofNat i) (RW q) = _
  unfold OJ
  simp only [BO,Ak,FK hi,htu,Ac,Dc,hg2,qB,DC i (by omega)]
  refine UY n M f g (k:=k) hg hx hus d w (i + 1) _ _ (by omega) (by omega) ?_ ?_ ?_
  ·rw [hq,BB,BB,List.take_add_one,hat,List.map_append];rfl
  ·show (2 * (i + 1) + 0) / 2 = _;omega
  ·show (2 * (i + 1) + 0) % 2 = _;omega
theorem p52 (k:Nat) (args:List Value):AQ (k + 1) 52 args = m52 (AQ k) L args:=by kernel_rfl
theorem iP (n f g:Nat) {r c k:Nat} {us:List Nat} {x:List Int} (hg:(r,c,us) ∈ Ca) (hx:x.length = r * c) (hus:1≤us.length):AQ (n + 7) 52 [WY r c k f us,S g x] = some (SR (MS (DR (BB r c x us)))):=by
 rw [p52]
 show oo (AL (KZ r c k f us) 3) none (fun v12951=>(oo (Bj 1 v12951) none fun s12953=>(OL (AQ (n + 6)) L L 0 (KZ r c k f us) (sl g x) 0 0 (Int.ofNat (Sl.n s12953)) (0:Int) ([]:List Value)))) = _
 rw [show AL (KZ r c k f us) 3 = some (Sl.v 1 ⟨len us,f,IB us⟩) from rfl,Ac,Dc,Ac]
 have h:=UY n L f g (k:=k) hg hx hus us.length L 0 0 [] (by omega) (by have:=(Cz hg).len8;show _ < 1000000;omega) (by simp [BB]) rfl rfl
 rw [←AV] at h
 exact h
end Go.BkQ
set_option maxRecDepth 100000
set_option maxHeartbeats 4000000
namespace Go.BkQ
open Go Go.Sp Go.BkYM
def FL (l:List (List Int)):Prop:=l.Pairwise fun a b=>G5 a b = true
theorem SQ {y : List Int} : ∀ {r : List (List Int)} {x : List Int}, x ∈ y :: Ez y r ↔ x ∈ y :: r
 | [],_=>Iff.rfl
 | z :: r, x => by
  unfold Ez
  by_cases h:z = y
  ·subst h
   rw [if_pos rfl,SQ (r:=r)]
   simp
  ·rw [if_neg h]
   rw [List.mem_cons,SQ (y:=z) (r:=r),←List.mem_cons]
theorem Ki {m : Nat} : ∀ {y : List Int} {r : List (List Int)}, Fp (y :: r) → C8 m (y :: r) → FL (y :: Ez y r)
 | _,[],_,_=>List.pairwise_singleton _ _
 | y, z :: r, hs, he => by
  have hy:y.length = m:=he y (by simp)
  have hz:z.length = m:=he z (by simp)
  have h1:=List.pairwise_cons.1 hs
  unfold Ez
  by_cases h:z = y
  ·subst h
   rw [if_pos rfl]
   exact Ki h1.2 fun x hx=>he x (List.mem_cons_of_mem _ hx)
  ·rw [if_neg h]
   have ih:=Ki h1.2 (m:=m) fun x hx=>he x (List.mem_cons_of_mem _ hx)
   have hlt:G5 y z = true:=K7 (by rw [hz,hy]) h (h1.1 z (by simp))
   refine List.pairwise_cons.2 ⟨fun x hx=>?_,ih⟩
   rcases List.mem_cons.1 hx with rfl | hx
   ·exact hlt
   ·exact HY hlt ((List.pairwise_cons.1 ih).1 x hx)
theorem QO : ∀ {a b : List (List Int)}, FL a → FL b → (∀ x, x ∈ a ↔ x ∈ b) → a = b
 | [],[],_,_,_=>rfl
 | [],y :: b,_,_,h=>by have:=(h y).2 (by simp);simp at this
 | x :: a,[],_,_,h=>by have:=(h x).1 (by simp);simp at this
 | x :: a, y :: b, ha, hb, h => by
  have h1:=List.pairwise_cons.1 ha
  have h2:=List.pairwise_cons.1 hb
  have e:x = y:=by
   rcases List.mem_cons.1 ((h x).1 (by simp)) with e | hx
   ·exact e
   ·rcases List.mem_cons.1 ((h y).2 (by simp)) with e | hy
    ·exact e.symm
    ·have h3 := HY (h2.1 x hx) (h1.1 y hy)
     rw [FY] at h3;cases h3
  subst e
  congr 1
  refine QO h1.2 h2.2 fun z=>⟨fun hz=>?_,fun hz=>?_⟩
  ·rcases List.mem_cons.1 ((h z).1 (List.mem_cons_of_mem _ hz)) with rfl | h3
   ·have:=h1.1 z hz;rw [FY] at this;cases this
   ·exact h3
  ·rcases List.mem_cons.1 ((h z).2 (List.mem_cons_of_mem _ hz)) with rfl | h3
   ·have:=h2.1 z hz;rw [FY] at this;cases this
   ·exact h3
theorem PQ {m:Nat} {l:List (List Int)} (hs:Fp l) (hn:l.Nodup) (he:C8 m l):FL l:=by
 induction l with
 | nil=>exact List.Pairwise.nil
 | cons a l ih =>
  have h1:=List.pairwise_cons.1 hs
  have h2:=List.pairwise_cons.1 hn
  refine List.pairwise_cons.2 ⟨fun x hx=>K7 (by rw [he x (List.mem_cons_of_mem _ hx),he a (by simp)]) (Ne.symm (h2.1 x hx)) (h1.1 x hx),ih h1.2 h2.2 fun x hx=>he x (List.mem_cons_of_mem _ hx)⟩
theorem FL.sorted {l:List (List Int)} (h:FL l):Fp l:=h.imp fun h=>K8 h
theorem FL.nodup {l:List (List Int)} (h:FL l):l.Nodup:=h.imp fun h e=>by subst e;rw [FY] at h;cases h
theorem QP {m:Nat} {l:List (List Int)} (he:C8 m l):FL (MS (DR l))∧∀ x,x ∈ MS (DR l)↔x ∈ l:=by
 obtain ⟨hp,hs⟩:=Kg he
 have he2:=Po he
 cases h:DR l with
 | nil =>
  rw [h] at hp
  obtain rfl:=List.Perm.nil_eq hp
  exact ⟨List.Pairwise.nil,fun x=>Iff.rfl⟩
 | cons y r =>
  rw [h] at hs hp he2
  exact ⟨Ki hs he2,fun x=>(SQ (y:=y) (r:=r)).trans hp.mem_iff⟩
abbrev IhK:=Sl→Nat→Nat→Int→Int→Int→Int→Sl→List Value→Option Value
theorem iQ (k M : Nat) (ih0 : IhK) {m : Nat} (hm : m < 900000) {s t : Sl} {R C K : Int} {c i n : Nat} (hi : i < 999999) : ∀ (j w : Nat) {l : List (List Int)}, l.length = n → j < n → n < 900000 → C8 m l → j < w →
 Oy (AQ (k + 1)) M ih0 w s n c (.ofNat i) (.ofNat j) R C K t (RW l) = ih0 s n c (.ofNat (i + 1)) R C K t (RW (FN j l))
 | _,0,_,_,_,_,_,h=>by omega
 | 0, w + 1, l, hl, hj, hn, he, hw => by
  show Ox (AQ (k + 1)) M ih0 (Oy (AQ (k + 1)) M ih0 w) s n c (.ofNat i) (.ofNat 0) R C K t (RW l) = _
  unfold Ox Qp Ow
  simp only [show AY 0 (Int.ofNat 0) = false from rfl,AA,BO,Ak,DC i (by omega),FN]
 | j + 1, w + 1, l, hl, hj, hn, he, hw => by
  have h1:j + 1 < l.length:=by omega
  have h0:j < l.length:=by omega
  have e1:l.getD (j + 1) [] = l[j + 1]:=by simp [List.getD_eq_getElem?_getD,h1]
  have e2:l.getD j [] = l[j]:=by simp [List.getD_eq_getElem?_getD,h0]
  have hc:=QH k 0 0 (a:=l[j + 1]) (b:=l[j]) (by rw [he.at,he.at]) (by rw [he.at];exact hm)
  have hc:AQ (k + 1) 54 [Sl.v 1 (sl 0 l[j + 1]),Sl.v 1 (sl 0 l[j])] = some (.bool (G5 l[j + 1] l[j])):=hc
  show Ox (AQ (k + 1)) M ih0 (Oy (AQ (k + 1)) M ih0 w) s n c (.ofNat i) (.ofNat (j + 1)) R C K t (RW l) = _
  unfold Ox Qp Ow
  simp only [show AY 0 (Int.ofNat (j + 1)) = true from rfl,Ak,Cx,Ac,Dy hj,Dy (show j < n by omega),Xd h1,Xd h0,Dc,UU j (by omega),hc,BU,BO,FN,e1,e2,DC i (by omega),iI l[j] h1,Pm,List.length_set,iI (l:=l.set (j + 1) l[j]) l[j + 1] (by simp;omega),iJ h1,iJ h0]
  cases h:G5 l[j + 1] l[j] with
  | true =>
   rw [Ak,if_pos rfl]
   exact iQ k M ih0 hm hi j w (by simp [hl]) (by omega) hn ((he.set _ (he.at h0)).set _ (he.at h1)) (by omega)
  | false=>rw [AA];rfl
theorem iR (k M : Nat) (ih0 : IhK) {m : Nat} (hm : m < 900000) {s t : Sl} {R C K : Int} {c n : Nat} {z : Int} {x : List Int} {q : List (List Int)} (hx : x.length = m) (hq : C8 m q) (hqn : q.length = n) (hn : n < 900000) : ∀ (d w i : Nat) (b : Bool), i + d = n → d < w →
 Qq (AQ (k + 1)) M ih0 w s n c z (sl 0 x) b (.ofNat i) R C K t (RW q) = Ud (AQ (k + 1)) M ih0 s n c z (sl 0 x) (b || decide (x ∈ q.drop i)) R C K t (RW q)
 | _,0,_,_,_,h=>by omega
 | 0, w + 1, i, b, hd, _ => by
  show Oz (AQ (k + 1)) M ih0 (Qq (AQ (k + 1)) M ih0 w) s n c z (sl 0 x) b (.ofNat i) R C K t (RW q) = _
  unfold Oz
  simp only [BO,Ak,Fb (show ¬ i < n by omega),AA]
  rw [List.drop_eq_nil_of_le (by omega)];simp
 | d + 1, w + 1, i, b, hd, hw => by
  have hi:i < q.length:=by omega
  have hs:=ZN k 0 0 (a:=q[i]) (b:=x) (by rw [hx];exact hq.at hi) (by rw [hq.at hi];exact hm)
  have hs:AQ (k + 1) 50 [Sl.v 1 (sl 0 q[i]),Sl.v 1 (sl 0 x)] = some (.bool (decide (q[i] = x))):=hs
  have ih:=fun b=>iR k M ih0 hm (s:=s) (t:=t) (R:=R) (C:=C) (K:=K) (c:=c) (z:=z) hx hq hqn hn d w (i + 1) b (by omega) (by omega)
  show Oz (AQ (k + 1)) M ih0 (Qq (AQ (k + 1)) M ih0 w) s n c z (sl 0 x) b (.ofNat i) R C K t (RW q) = _
  unfold Oz
  simp only [BO,Ak,FK (show i < n by omega),Cx,Ac,Dy (show i < n by omega),Xd hi,Dc,hs,BU,DC i (by omega),ih]
  cases b with
  | true=>simp
  | false =>
   have e:decide (x ∈ q.drop i) = (decide (q[i] = x) || decide (x ∈ q.drop (i + 1))):=by
    rw [List.drop_eq_getElem_cons hi,←Bool.decide_or]
    exact decide_eq_decide.2 (List.mem_cons.trans (or_congr_left eq_comm))
   rw [AA,e];rfl
end Go.BkQ
set_option maxRecDepth 100000
set_option maxHeartbeats 4000000
namespace Go.BkQ
open Go Go.Sp Go.BkYM
theorem QQ {r c:Nat} {x:List Int} {us:List Nat} {i:Nat} (hi:i < us.length) {y:List Int}:y ∈ BB r c x (us.take (i + 1))↔y ∈ BB r c x (us.take i)∨y = pick x (cellL r c us[i]):=by
 unfold BB
 rw [List.take_add_one,List.getElem?_eq_getElem hi,List.map_append,List.mem_append]
 simp
theorem iT (n M f g : Nat) {r c k : Nat} {us : List Nat} {x : List Int} (hg : (r, c, us) ∈ Ca) (hx : x.length = r * c) (hM : us.length < M) : ∀ (d w i cc : Nat) (q : List (List Int)), i + d = us.length → d < w → q.length ≤ i → FL q → (∀ y, y ∈ q ↔ y ∈ BB r c x (us.take i)) → cc / 2 = q.length → cc % 2 = 0 →
 ∃ Q,EM (AQ (n + 3)) M w (sl g x) q.length cc (.ofNat i) (.ofNat r) (.ofNat c) (.ofNat k) ⟨us.length,f,IB us⟩ (RW q) = some (.tuple ⟨[SR Q,I 0]⟩)∧FL Q∧∀ y,y ∈ Q↔y ∈ BB r c x us
 | _,0,_,_,_,_,h,_,_,_,_,_=>by omega
 | 0, w + 1, i, cc, q, hd, _, hql, hs, hm, hcc, _ => by
  obtain rfl:i = us.length:=by omega
  refine ⟨q,?_,hs,by simpa [List.take_length] using hm⟩
  show OA (AQ (n + 3)) M (EM (AQ (n + 3)) M w) (sl g x) q.length cc (.ofNat us.length) (.ofNat r) (.ofNat c) (.ofNat k) ⟨us.length,f,IB us⟩ (RW q) = _
  have ht:=iN q []
  have hf:=qC q []
  rw [List.append_nil] at ht hf
  unfold OA Uc
  simp only [BO,Ak,Fb (Nat.lt_irrefl us.length),AA,ht]
  rw [←BO q,hf,Ak];rfl
 | d + 1, w + 1, i, cc, q, hd, hw, hql, hs, hm, hcc, hcc2 => by
  have hp:=Cz hg
  have hl8:=hp.len8
  have hrc:r * c≤16:=Nat.mul_le_mul hp.r4 hp.c4
  have hi:i < us.length:=by omega
  have hmem:us[i] ∈ us:=List.getElem_mem hi
  have hget:AL (IB us) (i * 1) = some (I (.ofNat us[i])):=by
   rw [BZ,Nat.mul_one,show IB us = us.map fun n=>IV (Int.ofNat n) from Cc _ _,List.getElem?_map,List.getElem?_eq_getElem hi];rfl
  have htu:=Pj n g f (k:=k) hg hmem hx
  have htu:AQ (n + 3) 10480 [.agg ⟨[I (.ofNat r),I (.ofNat c),I (.ofNat k),Sl.v 1 ⟨us.length,f,IB us⟩]⟩,Sl.v 1 (sl g x),I (.ofNat us[i])] = some (.tuple ⟨[Sl.v 1 (sl 0 (pick x (cellL r c us[i])))]⟩):=by rw [Gt,AV] at htu;exact htu
  have hpl:(pick x (cellL r c us[i])).length = r * c:=by rw [Ji,(hp.row us[i] hmem).2.1]
  have he:C8 (r * c) q:=fun y hy=>Gv hg (fun t ht=>List.mem_of_mem_take ht) y ((hm y).1 hy)
  have hg2:=Qk (q:=q) (c:=cc) (by omega) (by omega) hcc2
  show ∃ Q,OA (AQ (n + 3)) M (EM (AQ (n + 3)) M w) (sl g x) q.length cc (.ofNat i) (.ofNat r) (.ofNat c) (.ofNat k) ⟨us.length,f,IB us⟩ (RW q) = _∧_
  have hsm:=iR (n + 2) M (EM (AQ (n + 3)) M w) (m:=r * c) (by omega) (s:=sl g x) (t:=⟨us.length,f,IB us⟩) (R:=.ofNat r) (C:=.ofNat c) (K:=.ofNat k) (c:=cc) (n:=q.length) (z:=.ofNat i) (x:=pick x (cellL r c us[i])) (q:=q) hpl he rfl (by omega) q.length M 0 false (by omega) (by omega)
  rw [List.drop_zero,Bool.false_or] at hsm
  unfold OA
  simp only [BO,Ak,FK hi,Cx,Ac,Dy hi,hget,BP,htu,FW,Dj,EG,Dc]
  rw [show (0:Int) = .ofNat 0 from rfl,hsm]
  unfold Ud Ow
  simp only [BO,Ak,hg2,qB]
  by_cases h:pick x (cellL r c us[i]) ∈ q
  ·rw [decide_eq_true h, Ak, DC i (by omega)]
   refine iT n M f g hg hx hM d w (i + 1) cc q (by omega) (by omega) (by omega) hs (fun y=>?_) hcc hcc2
   rw [QQ hi,←hm y]
   exact ⟨.inl,fun h2=>h2.elim id fun e=>by rw [e];exact h⟩
  ·rw [decide_eq_false h, AA, UU q.length (by omega)]
   have he2:C8 (r * c) (q ++ [pick x (cellL r c us[i])]):=fun y hy=>by
    rcases List.mem_append.1 hy with hy | hy
    ·exact he y hy
    ·obtain rfl:=List.mem_singleton.1 hy;exact hpl
   have hsk:=iQ (n + 2) M (EM (AQ (n + 3)) M w) (m:=r * c) (by omega) (s:=sl g x) (t:=⟨us.length,f,IB us⟩) (R:=.ofNat r) (C:=.ofNat c) (K:=.ofNat k) (c:=2 * (q.length + 1) + bb false 1 0) (i:=i) (n:=q.length + 1) (by omega) q.length M (l:=q ++ [pick x (cellL r c us[i])]) (by simp) (by omega) (by omega) he2 (by omega)
   rw [hsk]
   obtain ⟨q',h1,h2,h3⟩:=QL q (pick x (cellL r c us[i])) [] hs.sorted he hpl
   rw [List.append_nil] at h1
   rw [h1]
   have hl':q'.length = q.length + 1:=by rw [h2.length_eq];rfl
   have hs':FL q':=PQ (m:=r * c) h3 (h2.nodup_iff.2 (List.nodup_cons.2 ⟨h,hs.nodup⟩)) fun y hy=>by
    rcases List.mem_cons.1 (h2.mem_iff.1 hy) with rfl | hy
    ·exact hpl
    ·exact he y hy
   have ih:=iT n M f g (k:=k) hg hx hM d w (i + 1) (2 * (q.length + 1) + bb false 1 0) q' (by omega) (by omega) (by omega) hs' (fun y=>by
    rw [QQ hi,←hm y,h2.mem_iff,List.mem_cons]
    exact ⟨fun h=>h.symm,fun h=>h.symm⟩) (by show (2 * (q.length + 1) + 0) / 2 = _;omega) (by show (2 * (q.length + 1) + 0) % 2 = _;omega)
   rw [hl'] at ih
   exact ih
def Gw : List Int → List (List Int) → List Int
 | b,[]=>b
 | b,y :: r=>Gw (if G5 y b then y else b) r
theorem K9 : ∀ {r : List (List Int)} {b : List Int}, Gw b r ∈ b :: r
 | [],b=>by simp [Gw]
 | y :: r, b => by
  have h:=K9 (r:=r) (b:=if G5 y b then y else b)
  unfold Gw
  rcases List.mem_cons.1 h with h | h
  ·rw [h];split <;> simp
  ·exact List.mem_cons_of_mem _ (List.mem_cons_of_mem _ h)
theorem Yz {m : Nat} : ∀ {r : List (List Int)} {b : List Int}, C8 m (b :: r) → ∀ x ∈ b :: r, iK (Gw b r) x
 | [], b, _, x, hx => by
  obtain rfl:=List.mem_singleton.1 hx
  exact FY _
 | y :: r, b, he, x, hx => by
  have hb:b.length = m:=he b (by simp)
  have hy:y.length = m:=he y (by simp)
  have he2:C8 m ((if G5 y b then y else b) :: r):=fun z hz=>by
   rcases List.mem_cons.1 hz with rfl | hz
   ·split
    ·exact hy
    ·exact hb
   ·exact he z (by simp [hz])
  have ih:=Yz he2
  have hmn:(Gw (if G5 y b then y else b) r).length = m:=he2 _ K9
  unfold Gw
  have h0:=ih _ List.mem_cons_self
  have hxm:x.length = m:=he x hx
  rcases List.mem_cons.1 hx with rfl | hx
  ·refine L6 hmn (he2 _ List.mem_cons_self) hxm h0 ?_
   by_cases h:G5 y x = true
   ·rw [if_pos h];exact K8 h
   ·rw [if_neg h];exact FY _
  ·rcases List.mem_cons.1 hx with rfl | hx
   ·refine L6 hmn (he2 _ List.mem_cons_self) hxm h0 ?_
    by_cases h:G5 x b = true
    ·rw [if_pos h];exact FY _
    ·rw [if_neg h];unfold iK;simpa using h
   ·exact ih x (List.mem_cons_of_mem _ hx)
end Go.BkQ
