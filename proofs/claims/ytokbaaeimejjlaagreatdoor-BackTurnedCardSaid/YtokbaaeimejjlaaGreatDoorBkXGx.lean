/- Made from wip. -/
import Derived.Test.YtokbaaeimejjlaaGreatDoorBkX7x

set_option maxRecDepth 100000
set_option maxHeartbeats 4000000
namespace Go.BkQ
open Go Go.Sp Go.BkXM
theorem p46 (k:Nat) (args:List Value):puZ (k + 1) 46 args = m46 (puZ k) L args:=by kernel_rfl
theorem p47 (k:Nat) (args:List Value):puZ (k + 1) 47 args = m47 (puZ k) L args:=by kernel_rfl
theorem q49 (k:Nat) (args:List Value):puZ (k + 1) 49 args = m49 (puZ k) L args:=by kernel_rfl
theorem p50 (k:Nat) (args:List Value):puZ (k + 1) 50 args = m50 (puZ k) L args:=by kernel_rfl
theorem p43 (k:Nat) (args:List Value):puZ (k + 1) 43 args = m43 (puZ k) L args:=by kernel_rfl
theorem p10480 (k:Nat) (args:List Value):puZ (k + 1) 10480 args = m10480 (puZ k) L args:=by kernel_rfl
noncomputable def backE (R C K:Int) (ts x:List Int):Int:=if pressE R C K ts = 0 then validE R.toNat C.toNat K.toNat x else pressE R C K ts
theorem l46_ne (pu:PureF) (M:Nat) {w:Nat} {s s':Sl} {e i R C K:Int} (h:e ≠ 0):l46_2 pu M (w + 1) s e i R C K s' = some (I e):=by
 show bb (ilt i (Int.ofNat s.n)) (bb (ieq e 0) _ (some (I e))) (some (I e)) = _
 rw [ieq_dec,decide_eq_false h]
 cases ilt i (Int.ofNat s.n) <;> rfl
theorem scan46 (n M f : Nat) {R C : Int} {k : Nat} {s' : Sl} {x : List Int} (hk : 1 ≤ k ∧ k ≤ 4) (hl : x.length < 900000) : ∀ (rest : List Int) (w i : Nat), x.drop i = rest → rest.length + 1 < w →
 l46_2 (puZ (n + 1)) M w (sl f x) 0 (.ofNat i) R C (.ofNat k) s' = some (I (if (∀ z ∈ rest,0≤z∧z < (k:Int)) then 0 else 1))
 | _,0,_,_,h=>by omega
 | [], w + 1, i, hd, _ => by
  have h1:=drop_end hd
  show bb (ilt (.ofNat i) (.ofNat x.length)) _ (some (I 0)) = _
  rw [ilt_nat,decide_eq_false (by omega),bb_false,if_pos (by simp)]
 | z :: rest, w + 1, i, hd, hw => by
  obtain ⟨hd2,hi,_⟩:=dropS hd
  have hlt:Nat.blt i x.length = true:=by rw [blt_eq];simp;omega
  have hrl:(z :: rest).length = rest.length + 1:=rfl
  show b46_2 (puZ (n + 1)) M (l46_2 (puZ (n + 1)) M w) (sl f x) 0 (.ofNat i) R C (.ofNat k) s' = _
  unfold b46_2
  rw [sl_n,ilt_nat,decide_eq_true hi,bb_true]
  unfold m46_3
  rw [show ieq (0:Int) 0 = true from rfl,bb_true,toN_mk,oo_some,sl_n,sl_cs,hlt,show an true true = true from rfl,bb_true,getS hd,oo_some,toI_mk,oo_some,pu_in,oo_some,vBool_mk,oo_some,show wrapF .i64 (Int.sub (Int.ofNat k) (1:Int)) = (k:Int) - 1 from wrapI _ (by show (-9223372036854775808:Int)≤(k:Int) - 1;omega) (by show (k:Int) - 1≤9223372036854775807;omega)]
  by_cases hz:0≤z∧z < (k:Int)
  ·rw [show decide ((0 : Int) ≤ z ∧ z ≤ (k : Int) - 1) = true from decide_eq_true (by omega), show nt true = false from rfl, bb_false]
   show l46_2 (puZ (n + 1)) M w (sl f x) 0 (wrapF .i64 (Int.add (.ofNat i) (1:Int))) R C (.ofNat k) s' = _
   rw [wrapS i (by omega),scan46 n M f hk hl rest w (i + 1) hd2 (by omega)]
   by_cases hr:∀ z ∈ rest,0≤z∧z < (k:Int)
   ·rw [if_pos hr, if_pos fun y hy => by
     rcases List.mem_cons.1 hy with rfl | hy
     ·exact hz
     ·exact hr y hy]
   ·rw [if_neg hr,if_neg fun h=>hr fun y hy=>h y (List.mem_cons_of_mem _ hy)]
  ·rw [show decide ((0 : Int) ≤ z ∧ z ≤ (k : Int) - 1) = false from decide_eq_false (by omega), show nt false = true from rfl, bb_true]
   show l46_2 (puZ (n + 1)) M w (sl f x) 1 _ R C (.ofNat k) s' = _
   obtain ⟨w,rfl⟩:∃ v,w = v + 1:=⟨w - 1,by omega⟩
   rw [l46_ne _ _ (by omega),if_neg fun h=>hz (h z List.mem_cons_self)]
theorem pu_refvalid (n f g:Nat) {R C K:Int} {ts x:List Int} (hl:ts.length≤100) (hx:x.length < 900000):puZ (n + 7) 46 [.agg ⟨[I R,I C,I K,S f ts]⟩,S g x] = some (I (backE R C K ts x)):=by
 rw [p46]
 show oo (puZ (n + 6) 36 [.agg ⟨[I R,I C,I K,S f ts]⟩]) none (fun v4571=>(oo (toI .i64 v4571) none fun x4573=>(bb (ieq x4573 (0:Int)) (m46_5 (puZ (n + 6)) L (sl g x) x4573 (nt (ieq (Int.ofNat x.length) (wrapF .i64 (Int.mul R C)))) R C K (sl f ts)) (m46_5 (puZ (n + 6)) L (sl g x) x4573 false R C K (sl f ts))))) = _
 rw [pu_check n f hl,oo_some,toI_mk,oo_some,ieq_dec]
 unfold backE
 by_cases h:pressE R C K ts = 0
 ·rw [if_pos h, decide_eq_true h, bb_true, h]
  obtain ⟨r,c,k,us,rfl,rfl,rfl,rfl,hg,hk⟩:=press_inv h
  have hp:=press_ok hg
  have hrc:r * c≤16:=Nat.mul_le_mul hp.r4 hp.c4
  rw [show Int.mul (Int.ofNat r) (Int.ofNat c) = Int.ofNat (r * c) from rfl,wrapI _ (by simp;omega) (by simp;omega),ieq_nat]
  unfold validE
  show m46_5 (puZ (n + 6)) L (sl g x) 0 (nt (Nat.beq x.length (r * c))) (.ofNat r) (.ofNat c) (.ofNat k) (sl f (us.map Int.ofNat)) = some (I (if x.length ≠ r * c then 5 else if (∀ z ∈ x,0≤z∧z < (k:Int)) then 0 else 1))
  by_cases hx2:x.length = r * c
  ·rw [if_neg (by simpa using hx2), hx2, show Nat.beq (r * c) (r * c) = true from by simp]
   show l46_2 (puZ (n + 6)) L L (sl g x) 0 (.ofNat 0) (.ofNat r) (.ofNat c) (.ofNat k) (sl f (us.map Int.ofNat)) = _
   exact scan46 (n + 5) L g (by omega) hx x L 0 List.drop_zero (by show _ < 1000000;omega)
  ·rw [if_pos hx2, show Nat.beq x.length (r * c) = false from by cases e : Nat.beq x.length (r * c) with | false => rfl | true => exact absurd (Nat.eq_of_beq_eq_true e) hx2]
   exact l46_ne (w:=999999) _ _ (by omega)
 ·rw [if_neg h, decide_eq_false h, bb_false]
  exact l46_ne (w:=999999) _ _ h
theorem scan47 (pu : PureF) (M f : Nat) {ts : List Int} (z : Int) (hl : ts.length < 900000) : ∀ (rest : List Int) (w i : Nat), ts.drop i = rest → rest.length < w →
 l47_1 pu M w (sl f ts) z (.ofNat i) = some (.bool (decide (z ∈ rest)))
 | _,0,_,_,h=>by omega
 | [], w + 1, i, hd, _ => by
  have h1:=drop_end hd
  show bb (ilt (.ofNat i) (.ofNat ts.length)) _ (some (Value.bool false)) = _
  rw [ilt_nat,decide_eq_false (by omega),bb_false];simp
 | y :: rest, w + 1, i, hd, hw => by
  obtain ⟨hd2,hi,_⟩:=dropS hd
  have hlt:Nat.blt i ts.length = true:=by rw [blt_eq];simp;omega
  have hrl:(y :: rest).length = rest.length + 1:=rfl
  show b47_1 pu M (l47_1 pu M w) (sl f ts) z (.ofNat i) = _
  unfold b47_1
  rw [sl_n,ilt_nat,decide_eq_true hi,bb_true,toN_mk,oo_some,hlt,show an true true = true from rfl,bb_true,sl_cs,getS hd,oo_some,toI_mk,oo_some,ieq_dec,wrapS i (by omega),scan47 pu M f z hl rest w (i + 1) hd2 (by omega)]
  by_cases h:y = z
  ·subst h;simp
  ·rw [decide_eq_false h]
   have:decide (z ∈ y :: rest) = decide (z ∈ rest):=by
    by_cases h2:z ∈ rest
    ·simp [h2]
    ·rw [decide_eq_false h2, decide_eq_false fun h3 => by
      rcases List.mem_cons.1 h3 with e | e
      ·exact h e.symm
      ·exact h2 e]
   rw [this];rfl
theorem pu_has (n f:Nat) {ts:List Int} (z:Int) (hl:ts.length < 900000):puZ (n + 1) 47 [S f ts,I z] = some (.bool (decide (z ∈ ts))):=by
 rw [p47]
 exact scan47 (puZ n) L f z hl ts L 0 List.drop_zero (by show _ < 1000000;omega)
theorem scan49 (pu : PureF) (M : Nat) {a b : List Int} (hab : a.length = b.length) (hl : a.length < 900000) (f1 f2 : Nat) : ∀ (r r' : List Int) (w i : Nat), a.drop i = r → b.drop i = r' → r.length < w →
 l49_1 pu M w (sl f1 a) (sl f2 b) (.ofNat a.length) (.ofNat i) = some (.bool (decide (r = r')))
 | _,_,0,_,_,_,h=>by omega
 | [], r', w + 1, i, hd, hd', _ => by
  have h1:=drop_end hd
  have h2:r' = []:=by rw [←hd'];exact List.drop_eq_nil_iff.2 (by omega)
  subst h2
  show bb (ilt (.ofNat i) (.ofNat a.length)) _ (some (Value.bool true)) = _
  rw [ilt_nat,decide_eq_false (by omega)];rfl
 | x :: r, r', w + 1, i, hd, hd', hw => by
  obtain ⟨hd2,hi,_⟩:=dropS hd
  cases r' with
  | nil=>have h1:=drop_end hd';omega
  | cons y r' =>
   obtain ⟨hd3,hi3,_⟩:=dropS hd'
   have hr:(x :: r).length = r.length + 1:=rfl
   have hlt:Nat.blt i a.length = true:=by rw [blt_eq];simp;omega
   have hlt2:Nat.blt i b.length = true:=by rw [blt_eq];simp;omega
   have ih:=scan49 pu M hab hl f1 f2 r r' w (i + 1) hd2 hd3 (by omega)
   show b49_1 pu M (l49_1 pu M w) (sl f1 a) (sl f2 b) (.ofNat a.length) (.ofNat i) = _
   unfold b49_1
   rw [ilt_nat,decide_eq_true hi,bb_true,toN_mk,oo_some,sl_n,sl_n,sl_cs,sl_cs,hlt,hlt2,show an true true = true from rfl,bb_true,getS hd,oo_some,toI_mk,oo_some,bb_true,getS hd',oo_some,toI_mk,oo_some,wrapS i (by omega),ih,ieq_dec]
   by_cases h:x = y
   ·subst h;simp
   ·have hc : ¬ (x :: r = y :: r') := fun e => h (by injection e)
    rw [decide_eq_false h,decide_eq_false hc];rfl
theorem pu_equal (n f1 f2:Nat) {a b:List Int} (hl:a.length < 900000):puZ (n + 1) 49 [S f1 a,S f2 b] = some (.bool (decide (a = b))):=by
 rw [q49]
 show bb (nt (ieq (Int.ofNat a.length) (Int.ofNat b.length))) (some (.bool false)) (l49_1 (puZ n) L L (sl f1 a) (sl f2 b) (.ofNat a.length) (.ofNat 0)) = _
 rw [ieq_dec]
 by_cases h:a.length = b.length
 ·rw [decide_eq_true (congrArg Int.ofNat h), show nt true = false from rfl, bb_false]
  exact scan49 (puZ n) L h hl f1 f2 a b L 0 List.drop_zero List.drop_zero (by show _ < 1000000;omega)
 ·have : ¬ a = b := fun e => h (by rw [e])
  rw [decide_eq_false (fun e=>h (Int.ofNat.inj e)),decide_eq_false this];rfl
theorem scan50 (pu : PureF) (M : Nat) {a b : List Int} (hab : a.length = b.length) (hl : a.length < 900000) (f1 f2 : Nat) : ∀ (r r' : List Int) (w i : Nat), a.drop i = r → b.drop i = r' → r.length < w →
 l50_1 pu M w (sl f1 a) (sl f2 b) (.ofNat i) = some (.bool (decide (r = r')))
 | _,_,0,_,_,_,h=>by omega
 | [], r', w + 1, i, hd, hd', _ => by
  have h1:=drop_end hd
  have h2:r' = []:=by rw [←hd'];exact List.drop_eq_nil_iff.2 (by omega)
  subst h2
  show bb (ilt (.ofNat i) (.ofNat a.length)) _ (some (Value.bool true)) = _
  rw [ilt_nat,decide_eq_false (by omega)];rfl
 | x :: r, r', w + 1, i, hd, hd', hw => by
  obtain ⟨hd2,hi,_⟩:=dropS hd
  cases r' with
  | nil=>have h1:=drop_end hd';omega
  | cons y r' =>
   obtain ⟨hd3,hi3,_⟩:=dropS hd'
   have hr:(x :: r).length = r.length + 1:=rfl
   have hlt:Nat.blt i a.length = true:=by rw [blt_eq];simp;omega
   have hlt2:Nat.blt i b.length = true:=by rw [blt_eq];simp;omega
   have ih:=scan50 pu M hab hl f1 f2 r r' w (i + 1) hd2 hd3 (by omega)
   show b50_1 pu M (l50_1 pu M w) (sl f1 a) (sl f2 b) (.ofNat i) = _
   unfold b50_1
   rw [sl_n,ilt_nat,decide_eq_true hi,bb_true,toN_mk,oo_some,sl_n,sl_cs,sl_cs,hlt,hlt2,show an true true = true from rfl,bb_true,getS hd,oo_some,toI_mk,oo_some,bb_true,getS hd',oo_some,toI_mk,oo_some,wrapS i (by omega),ih,ieq_dec]
   by_cases h:x = y
   ·subst h;simp
   ·have hc : ¬ (x :: r = y :: r') := fun e => h (by injection e)
    rw [decide_eq_false h,decide_eq_false hc];rfl
theorem pu_same50 (n f1 f2:Nat) {a b:List Int} (h:a.length = b.length) (hl:a.length < 900000):puZ (n + 1) 50 [S f1 a,S f2 b] = some (.bool (decide (a = b))):=by
 rw [p50]
 exact scan50 (puZ n) L h hl f1 f2 a b L 0 List.drop_zero List.drop_zero (by show _ < 1000000;omega)
end Go.BkQ
set_option maxRecDepth 100000
set_option maxHeartbeats 4000000
namespace Go.BkQ
open Go Go.Sp Go.BkXM
theorem upN_eq : ∀ n, upN n = List.range n
 | 0=>rfl
 | n + 1 => by
  show appL (upN n) [n] = _
  rw [appL_eq,upN_eq n,List.range_succ]
theorem cellL_eq (r c t:Nat):cellL r c t = (List.range (r * c)).map (cellN r c t):=by
 show mapL (cellN r c t) (upN (r * c)) = _
 rw [mapL_eq,upN_eq]
theorem cell_runs (n:Nat) (K:Int) (s:Sl):mapL (fun p:Nat×Nat=>mapL (fun t=>mapL (fun i=>puZ (n + 2) 81 [.agg ⟨[I (.ofNat p.1),I (.ofNat p.2),I K,Sl.v 1 s]⟩,I (.ofNat t),I (.ofNat i)]) (upN (p.1 * p.2))) (baseL (Nat.beq p.1 p.2))) sides = mapL (fun p=>mapL (fun t=>mapL (fun i=>some (I (.ofNat (cellN p.1 p.2 t i)))) (upN (p.1 * p.2))) (baseL (Nat.beq p.1 p.2))) sides:=by kernel_rfl
theorem base_all:allL (fun p:Nat×Nat×List Nat=>allL (fun t=>hasN (baseL (Nat.beq p.1 p.2.1)) t) p.2.2) groupsL = true:=by kernel_rfl
theorem base_mem {r c:Nat} {us:List Nat} (hg:(r,c,us) ∈ groupsL) {t:Nat} (ht:t ∈ us):t ∈ baseL (Nat.beq r c):=by
 have h:=base_all
 rw [allL_eq,List.all_eq_true] at h
 have h:=h _ hg
 rw [allL_eq,List.all_eq_true] at h
 exact hasN_mem.1 (h t ht)
theorem pu_cell (n:Nat) {K:Int} {s:Sl} {r c t i:Nat} (hr:1≤r∧r≤4) (hc:1≤c∧c≤4) (ht:t ∈ baseL (Nat.beq r c)) (hi:i < r * c):puZ (n + 2) 81 [.agg ⟨[I (.ofNat r),I (.ofNat c),I K,Sl.v 1 s]⟩,I (.ofNat t),I (.ofNat i)] = some (I (.ofNat (cellN r c t i))):=by
 have h1:=mapL_mem (f:=fun p:Nat×Nat=>mapL (fun t=>mapL (fun i=>puZ (n + 2) 81 [.agg ⟨[I (.ofNat p.1),I (.ofNat p.2),I K,Sl.v 1 s]⟩,I (.ofNat t),I (.ofNat i)]) (upN (p.1 * p.2))) (baseL (Nat.beq p.1 p.2))) (g:=fun p=>mapL (fun t=>mapL (fun i=>some (I (.ofNat (cellN p.1 p.2 t i)))) (upN (p.1 * p.2))) (baseL (Nat.beq p.1 p.2))) (cell_runs n K s) (r,c) (side_mem hr hc)
 have h2:=mapL_mem (f:=fun t=>mapL (fun i=>puZ (n + 2) 81 [.agg ⟨[I (.ofNat r),I (.ofNat c),I K,Sl.v 1 s]⟩,I (.ofNat t),I (.ofNat i)]) (upN (r * c))) (g:=fun t=>mapL (fun i=>some (I (.ofNat (cellN r c t i)))) (upN (r * c))) h1 t ht
 exact mapL_mem (f:=fun i=>puZ (n + 2) 81 [.agg ⟨[I (.ofNat r),I (.ofNat c),I K,Sl.v 1 s]⟩,I (.ofNat t),I (.ofNat i)]) (g:=fun i=>some (I (.ofNat (cellN r c t i)))) h2 i (by rw [upN_eq];exact List.mem_range.2 hi)
theorem takeS (l:List Int):takeL (l.length * 1) (dropL 0 (l.map I)) = l.map I:=by rw [takeL_eq,dropL_eq,List.drop_zero,Nat.mul_one];exact List.take_of_length_le (by simp)
theorem fitS (l:List Int):an (Nat.ble (0 + l.length * 1) (len (l.map I))) (allL closed1 (l.map I)) = true:=by
 rw [closedS,len_eq,show Nat.ble (0 + l.length * 1) (l.map I).length = true from Nat.ble_eq_true_of_le (by simp)];rfl
theorem turned_loop2 (n M f : Nat) {K : Int} {s : Sl} {r c t : Nat} {x : List Int} (hr : 1 ≤ r ∧ r ≤ 4) (hc : 1 ≤ c ∧ c ≤ 4) (ht : t ∈ baseL (Nat.beq r c)) (hx : x.length = r * c) (hlt : ∀ k ∈ cellL r c t, k < x.length) : ∀ (d i w : Nat) (q : List Int) (cc : Nat), i + d = r * c → d < w → q.length = i → cc / 2 = q.length → cc % 2 = 0 →
 l10480_1 (puZ (n + 2)) M w (sl f x) (.ofNat t) q.length cc (.ofNat i) (.ofNat r) (.ofNat c) K s (q.map I) = some (.tuple ⟨[S 0 (q ++ pick x ((cellL r c t).drop i))]⟩)
 | _,_,0,_,_,_,h,_,_,_=>by omega
 | 0, i, w + 1, q, cc, hd, _, hq, _, _ => by
  show bb (allL closed1 (q.map I)) (bb (ilt (.ofNat i) (.ofNat x.length)) _ (bb (allL closed1 (q.map I)) (bb (an (Nat.ble (0 + q.length * 1) (len (q.map I))) (allL closed1 (takeL (q.length * 1) (dropL 0 (q.map I))))) (some (Value.tuple ⟨[(Sl.v 1 (Sl.mk q.length 0 (takeL (q.length * 1) (dropL 0 (q.map I)))))]⟩)) none) none)) none = _
  rw [closedS,bb_true,ilt_nat,decide_eq_false (by omega),bb_false,bb_true,takeS,fitS,bb_true]
  have:(cellL r c t).drop i = []:=by rw [cellL_eq];exact List.drop_eq_nil_iff.2 (by simp;omega)
  rw [this,show pick x [] = [] from rfl,List.append_nil];rfl
 | d + 1, i, w + 1, q, cc, hd, hw, hq, hcc, hcc2 => by
  have hi:i < r * c:=by omega
  have hrc:r * c≤16:=Nat.mul_le_mul hr.2 hc.2
  have hget:(cellL r c t)[i]? = some (cellN r c t i):=by rw [cellL_eq];simp [hi]
  have hk:=hlt _ (List.mem_of_getElem? hget)
  have hdr:(cellL r c t).drop i = cellN r c t i :: (cellL r c t).drop (i + 1):=by
   have hl:i < (cellL r c t).length:=(List.getElem?_eq_some_iff.1 hget).1
   rw [List.drop_eq_getElem_cons hl]
   congr 1
   exact (List.getElem?_eq_some_iff.1 hget).2
  have hpk:pick x ((cellL r c t).drop i) = x.getD (cellN r c t i) 0 :: pick x ((cellL r c t).drop (i + 1)):=by rw [hdr];rfl
  show b10480_1 (puZ (n + 2)) M (l10480_1 (puZ (n + 2)) M w) (sl f x) (.ofNat t) q.length cc (.ofNat i) (.ofNat r) (.ofNat c) K s (q.map I) = _
  unfold b10480_1
  rw [closedS,bb_true,sl_n,ilt_nat,decide_eq_true (by omega),bb_true,pu_cell n hr hc ht hi,oo_some,toI_mk,oo_some,toN_mk,oo_some,show Nat.blt (cellN r c t i) x.length = true from by rw [blt_eq];simpa using hk,show an true true = true from rfl,bb_true,sl_cs,getS' hk,oo_some,toI_mk,oo_some,growS (by omega) hcc hcc2,bb_true,snocS,closedS,bb_true,wrapS i (by omega)]
  have ih:=turned_loop2 n M f (K:=K) (s:=s) hr hc ht hx hlt d (i + 1) w (q ++ [x[cellN r c t i]]) (2 * (q.length + 1) + bb false 1 0) (by omega) (by omega) (by simp;omega) (by rw [List.length_append];show (2 * (q.length + 1) + 0) / 2 = q.length + 1;omega) (by show (2 * (q.length + 1) + 0) % 2 = 0;omega)
  rw [List.length_append] at ih
  refine ih.trans ?_
  rw [hpk,List.append_assoc,show x.getD (cellN r c t i) 0 = x[cellN r c t i] from by simp [List.getD_eq_getElem?_getD,hk]];rfl
theorem pu_turned2 (n f fl:Nat) {r c k t:Nat} {us:List Nat} {x:List Int} (hg:(r,c,us) ∈ groupsL) (ht:t ∈ us) (hx:x.length = r * c):puZ (n + 3) 10480 [pressV r c k fl us,S f x,I (.ofNat t)] = some (.tuple ⟨[S 0 (pick x (cellL r c t))]⟩):=by
 have hp:=press_ok hg
 rw [p10480]
 have h:=turned_loop2 n L f (K:=.ofNat k) (s:=⟨len us,fl,nvL us⟩) ⟨hp.r1,hp.r4⟩ ⟨hp.c1,hp.c4⟩ (base_mem hg ht) hx (fun j hj=>by rw [hx];exact (hp.row t ht).2.2 j hj) (r * c) 0 L [] 0 (by omega) (by have:r * c≤16:=Nat.mul_le_mul hp.r4 hp.c4;show _ < 1000000;omega) rfl rfl rfl
 exact h
theorem p51 (k:Nat) (args:List Value):puZ (k + 1) 51 args = m51 (puZ k) L args:=by kernel_rfl
theorem or_pos (a b:Nat) (h:a ≠ 0∨b ≠ 0):a ||| b ≠ 0:=by
 intro e
 have:=Nat.or_eq_zero_iff.1 e
 rcases h with h | h
 ·exact h this.1
 ·exact h this.2
theorem changed_or {z k:Nat} (hk:k < 16) (hz:z < 65536):∃ z':Nat,aor .u16 (.ofNat z) (shlI .u16 (1:Int) k) = .ofNat z'∧z' ≠ 0∧z' < 65536:=by
 have hs:shlI .u16 (1:Int) k = .ofNat (2 ^ k):=by
  have:k = 0∨k = 1∨k = 2∨k = 3∨k = 4∨k = 5∨k = 6∨k = 7∨k = 8∨k = 9∨k = 10∨k = 11∨k = 12∨k = 13∨k = 14∨k = 15:=by omega
  rcases this with rfl | rfl | rfl | rfl | rfl | rfl | rfl | rfl | rfl | rfl | rfl | rfl | rfl | rfl | rfl | rfl <;> rfl
 have hb:2 ^ k < 65536:=by
  have:2 ^ k < 2 ^ 16:=Nat.pow_lt_pow_right (by omega) hk
  simpa using this
 refine ⟨z ||| 2 ^ k,?_,or_pos _ _ (.inr (Nat.pos_iff_ne_zero.1 (Nat.two_pow_pos k))),Nat.or_lt_two_pow (n:=16) hz hb⟩
 rw [hs]
 show bb (bothIn .u16 z (2 ^ k)) (Int.ofNat (Nat.lor z (2 ^ k))) (aorS .u16 (.ofNat z) (.ofNat (2 ^ k))) = .ofNat (z ||| 2 ^ k)
 rw [show bothIn .u16 z (2 ^ k) = true from by unfold bothIn;simp [bitsMax];omega]
 rfl
end Go.BkQ
set_option maxRecDepth 100000
set_option maxHeartbeats 4000000
namespace Go.BkQ
open Go Go.Sp Go.BkXM
theorem getNv {row:List Nat} {i k:Nat} {rest:List Nat} (h:row.drop i = k :: rest):nthL (nvL row) (i * 1) = some (I (.ofNat k))∧row.drop (i + 1) = rest∧i < row.length:=by
 have hi:i < row.length:=by have:=congrArg List.length h;simp at this;omega
 have hk:row[i]? = some k:=by
  have:=congrArg List.head? h
  rw [List.head?_drop] at this;exact this
 refine ⟨?_,by rw [←List.drop_drop,h];rfl,hi⟩
 rw [nthL_eq,Nat.mul_one,show nvL row = row.map fun n=>IV (Int.ofNat n) from mapL_eq _ _,List.getElem?_map,hk];rfl
theorem changed_loop (pu : PureF) (M f : Nat) {row : List Nat} {x : List Int} (hx : row.length = x.length) (hx16 : x.length ≤ 16) (hr : ∀ k ∈ row, k < x.length) : ∀ (rest : List Nat) (xr : List Int) (w i z : Nat), row.drop i = rest → x.drop i = xr → rest.length < w → z < 65536 →
 ∃ z':Nat,l51_1 pu M w (sl f x) (.ofNat z) ⟨len row,0,nvL row⟩ (.ofNat (len row)) (.ofNat i) = some (.int .u16 (.ofNat z'))∧(z' = 0↔z = 0∧pick x rest = xr)
 | _,_,0,_,_,_,_,h,_=>by omega
 | [], xr, w + 1, i, z, hd, hd', _, _ => by
  have h1:row.length≤i:=List.drop_eq_nil_iff.1 hd
  have h2:xr = []:=by rw [←hd'];exact List.drop_eq_nil_iff.2 (by omega)
  subst h2
  refine ⟨z,?_,⟨fun h=>⟨h,rfl⟩,fun h=>h.1⟩⟩
  show bb (ilt (.ofNat i) (.ofNat (len row))) _ (some (Value.int .u16 (.ofNat z))) = _
  rw [ilt_nat,len_eq,decide_eq_false (by omega),bb_false]
 | k :: rest, xr, w + 1, i, z, hd, hd', hw, hz => by
  obtain ⟨hget,hd2,hi⟩:=getNv hd
  have hrl:(k :: rest).length = rest.length + 1:=rfl
  have hk:=hr k (List.mem_of_mem_drop (i:=i) (by rw [hd];exact List.mem_cons_self))
  cases xr with
  | nil=>have h1:=drop_end hd';omega
  | cons y xr =>
   obtain ⟨hd3,hi3,_⟩:=dropS hd'
   have hb1:Nat.blt i (len row) = true:=by rw [blt_eq,len_eq];simp;omega
   have hb2:Nat.blt k x.length = true:=by rw [blt_eq];simpa using hk
   have hb3:Nat.blt i x.length = true:=by rw [blt_eq];simpa using hi3
   have hpk:pick x (k :: rest) = x[k] :: pick x rest:=by
    show x.getD k 0 :: pick x rest = _
    rw [show x.getD k 0 = x[k] from by simp [List.getD_eq_getElem?_getD,hk]]
   have key:∀ z2:Nat,z2 < 65536→(z2 = 0↔z = 0∧x[k] = y)→∃ z':Nat,l51_1 pu M w (sl f x) (.ofNat z2) ⟨len row,0,nvL row⟩ (.ofNat (len row)) (.ofNat (i + 1)) = some (.int .u16 (.ofNat z'))∧(z' = 0↔z = 0∧pick x (k :: rest) = y :: xr):=fun z2 hz2 hh=>by
    obtain ⟨z',h1,h2⟩:=changed_loop pu M f hx hx16 hr rest xr w (i + 1) z2 hd2 hd3 (by omega) hz2
    refine ⟨z',h1,?_⟩
    rw [h2,hh,hpk,List.cons.injEq]
    exact ⟨fun h=>⟨h.1.1,h.1.2,h.2⟩,fun h=>⟨⟨h.1,h.2.1⟩,h.2.2⟩⟩
   have e:l51_1 pu M (w + 1) (sl f x) (.ofNat z) ⟨len row,0,nvL row⟩ (.ofNat (len row)) (.ofNat i) = bb (nt (decide (x[k] = y))) (l51_1 pu M w (sl f x) (aor .u16 (.ofNat z) (shlI .u16 (1:Int) i)) ⟨len row,0,nvL row⟩ (.ofNat (len row)) (.ofNat (i + 1))) (l51_1 pu M w (sl f x) (.ofNat z) ⟨len row,0,nvL row⟩ (.ofNat (len row)) (.ofNat (i + 1))):=by
    show b51_1 pu M (l51_1 pu M w) (sl f x) (.ofNat z) ⟨len row,0,nvL row⟩ (.ofNat (len row)) (.ofNat i) = _
    unfold b51_1 m51_2
    show bb (ilt (.ofNat i) (.ofNat (len row))) (oo (toN (.ofNat i)) none fun k5590=>(bb (an (Nat.blt k5590 (len row)) true) (oo (nthL (nvL row) (k5590 * 1)) none fun v5593=>(oo (toI .i64 v5593) none fun x5595=>(oo (toN x5595) none fun k5609=>(bb (an (Nat.blt k5609 x.length) true) (oo (nthL (x.map I) (k5609 * 1)) none fun v5612=>(oo (toI .i64 v5612) none fun x5614=>(bb (an (Nat.blt k5590 x.length) true) (oo (nthL (x.map I) (k5590 * 1)) none fun v5617=>(oo (toI .i64 v5617) none fun x5619=>(bb (nt (ieq x5614 x5619)) (l51_1 pu M w (sl f x) (aor .u16 (.ofNat z) (shlI .u16 (1:Int) k5590)) ⟨len row,0,nvL row⟩ (.ofNat (len row)) (wrapF .i64 (Int.add (Int.ofNat k5590) (1:Int)))) (l51_1 pu M w (sl f x) (.ofNat z) ⟨len row,0,nvL row⟩ (.ofNat (len row)) (wrapF .i64 (Int.add (Int.ofNat k5590) (1:Int))))))) none))) none)))) none)) _ = _
    rw [ilt_nat,decide_eq_true (by rw [len_eq];exact hi),bb_true,toN_mk,oo_some,hb1,show an true true = true from rfl,bb_true,hget,oo_some,toI_mk,oo_some,toN_mk,oo_some,hb2,show an true true = true from rfl,bb_true,getS' hk,oo_some,toI_mk,oo_some,hb3,show an true true = true from rfl,bb_true,getS hd',oo_some,toI_mk,oo_some,ieq_dec,wrapS i (by omega)]
   by_cases h:x[k] = y
   ·rw [e, decide_eq_true h]
    exact key z hz ⟨fun hz=>⟨hz,h⟩,fun hz=>hz.1⟩
   ·rw [e, decide_eq_false h]
    obtain ⟨z2,g1,g2,g3⟩:=changed_or (z:=z) (k:=i) (by omega) hz
    show ∃ z':Nat,l51_1 pu M w (sl f x) (aor .u16 (.ofNat z) (shlI .u16 (1:Int) i)) ⟨len row,0,nvL row⟩ (.ofNat (len row)) (.ofNat (i + 1)) = _∧_
    rw [g1]
    exact key z2 g3 ⟨fun h0=>absurd h0 g2,fun hz=>absurd hz.2 h⟩
theorem pu_changed (n f fl : Nat) {r c k t i : Nat} {us : List Nat} {x : List Int} (hg : (r, c, us) ∈ groupsL) (hi : us[i]? = some t) (hx : x.length = r * c) :
 ∃ z:Nat,puZ (n + 1) 51 [bedV r c k fl us,S f x,I (.ofNat i)] = some (.int .u16 (.ofNat z))∧(z = 0↔pick x (cellL r c t) = x):=by
 have hp:=press_ok hg
 have ht:=List.mem_of_getElem? hi
 obtain ⟨_,h1,h2⟩:=hp.row t ht
 have hrc:r * c≤16:=Nat.mul_le_mul hp.r4 hp.c4
 obtain ⟨z,g1,g2⟩:=changed_loop (puZ n) L f (row:=cellL r c t) (x:=x) (by omega) (by omega) (fun j hj=>by rw [hx];exact h2 j hj) _ _ L 0 0 rfl rfl (by rw [List.drop_zero,h1];show _ < 1000000;omega) (by omega)
 refine ⟨z,?_,by rw [g2,List.drop_zero,List.drop_zero];exact ⟨fun h=>h.2,fun h=>⟨rfl,h⟩⟩⟩
 rw [p51]
 have hii:i < us.length:=(List.getElem?_eq_some_iff.1 hi).1
 have hn:nthL (rowsV r c us) (i * 1) = some (rowV (cellL r c t)):=by
  rw [nthL_eq,Nat.mul_one,show rowsV r c us = us.map fun t=>rowV (cellL r c t) from mapL_eq _ _,List.getElem?_map,hi];rfl
 show bb (an (Nat.blt i (len us)) true) (oo (nthL (rowsV r c us) (i * 1)) none fun v5490=>(oo (toSl 1 v5490) none fun s5492=>(l51_1 (puZ n) L L (sl f x) (0:Int) s5492 (Int.ofNat (Sl.n s5492)) (0:Int)))) none = _
 rw [show Nat.blt i (len us) = true from by rw [blt_eq,len_eq];simpa using hii,show an true true = true from rfl,bb_true,hn,oo_some]
 exact g1
theorem pu_opened_bad (n f f0:Nat) {R C K:Int} {ts:List Int} {bs:Sl} (hl:ts.length≤100) (h:pressE R C K ts ≠ 0):puZ (n + 7) 43 [.agg ⟨[I R,I C,I K,S f ts]⟩,Sl.v 1 bs] = some (.tuple ⟨[.pointer none,I (pressE R C K ts)]⟩):=by
 rw [p43]
 show oo (puZ (n + 6) 55 [.agg ⟨[I R,I C,I K,S f ts]⟩]) none (fun v4098=>(oo (vTup v4098) none fun l4100=>(ll l4100 none fun v4102 l4100=>(ll l4100 none fun v4103 l4100=>(ll l4100 (bb (isS (vFp v4102)) (oo (vFp v4102) none fun p4105=>(oo (toI .i64 v4103) none fun x4107=>(bb (nt (ieq x4107 (0:Int))) (some (Value.tuple ⟨[(.pointer none),(.int .i64 x4107)]⟩)) (l43_1 (puZ (n + 6)) L L (FpV.off p4105) (FpV.cs p4105) bs (Int.ofNat (Sl.n bs)) (0:Int))))) (bb (isP0 v4102) (oo (toI .i64 v4103) none fun x4106=>(bb (nt (ieq x4106 (0:Int))) (some (Value.tuple ⟨[(.pointer none),(.int .i64 x4106)]⟩)) (l43_3 (puZ (n + 6)) L L bs (Int.ofNat (Sl.n bs)) (0:Int)))) none)) fun _ _=>none))))) = _
 rw [pu_laid_bad n f hl h,oo_some]
 show bb (nt (ieq (pressE R C K ts) 0)) (some (Value.tuple ⟨[(.pointer none),(.int .i64 (pressE R C K ts))]⟩)) _ = _
 rw [ieq_dec,decide_eq_false h];rfl
end Go.BkQ
set_option maxRecDepth 100000
set_option maxHeartbeats 4000000
namespace Go.BkQ
open Go Go.Sp Go.BkXM
theorem p11' (k:Nat) (args:List Value):puZ (k + 1) 11 args = m11 (puZ k) L args:=by kernel_rfl
theorem q12 (k:Nat) (args:List Value):puZ (k + 1) 12 args = m12 (puZ k) L args:=by kernel_rfl
noncomputable def eS (r c k:Nat) (s:Sl):Int:=validE r c k (s.cs.map fun v=>(toI .i64 v).getD 0)
theorem eS_sl (r c k f:Nat) (x:List Int):eS r c k (sl f x) = validE r c k x:=by
 unfold eS
 rw [sl_cs,List.map_map]
 have:((fun v=>(toI .i64 v).getD 0) ∘ I) = id:=funext fun n=>rfl
 rw [this,List.map_id]
theorem valid_right {r c k:Nat} {x:List Int} (h:validE r c k x = 0):Right r c k x:=by
 unfold validE at h
 by_cases h1:x.length = r * c
 ·rw [if_neg (by simpa using h1)] at h
  by_cases h2:∀ z ∈ x,0≤z∧z < (k:Int)
  ·exact ⟨h1,h2⟩
  ·rw [if_neg h2] at h;cases h
 ·rw [if_pos h1] at h;cases h
theorem press_eq (r c k f:Nat) (us:List Nat):(Value.agg ⟨[I (.ofNat r),I (.ofNat c),I (.ofNat k),S f (us.map Int.ofNat)]⟩) = pressV r c k f us:=by
 unfold S;rw [sl_us];rfl
theorem back_inv {R C K:Int} {ts x:List Int} (h:backE R C K ts x = 0):∃ r c k us,R = .ofNat r∧C = .ofNat c∧K = .ofNat k∧ts = us.map Int.ofNat∧(r,c,us) ∈ groupsL∧(k = 1∨k = 2∨k = 3∨k = 4)∧Right r c k x:=by
 unfold backE at h
 by_cases hp:pressE R C K ts = 0
 ·rw [if_pos hp] at h
  obtain ⟨r,c,k,us,rfl,rfl,rfl,rfl,hg,hk⟩:=press_inv hp
  exact ⟨r,c,k,us,rfl,rfl,rfl,rfl,hg,hk,valid_right h⟩
 ·rw [if_neg hp] at h;exact absurd h hp
theorem pu_openedZ (n f f0 : Nat) {R C K : Int} {ts : List Int} {xs : List (Nat × List Int)} (hl : ts.length ≤ 100) (hx : ∀ p ∈ xs, p.2.length < 900000) (hn : xs.length < 1000) (hb : firstE (xs.map fun p => backE R C K ts p.2) ≠ 0) (hne : xs ≠ []) :
 puZ (n + 7) 43 [.agg ⟨[I R,I C,I K,S f ts]⟩,Sl.v 1 ⟨xs.length,f0,xs.map fun p=>S p.1 p.2⟩] = some (.tuple ⟨[.pointer none,I (firstE (xs.map fun p=>backE R C K ts p.2))]⟩):=by
 by_cases hp:pressE R C K ts = 0
 ·have e : (xs.map fun p => backE R C K ts p.2) = xs.map fun p => validE R.toNat C.toNat K.toNat p.2 := List.map_congr_left fun p _ => by unfold backE; rw [if_pos hp]
  rw [e] at hb ⊢
  obtain ⟨r,c,k,us,rfl,rfl,rfl,rfl,hg,hk⟩:=press_inv hp
  have hpr:=press_ok hg
  have h:=pu_opened n f0 f (r:=r) (c:=c) (k:=k) (ts:=us) (bs:=xs.map fun p=>sl p.1 p.2) hk hg hpr.r1 hpr.r4 hpr.c1 hpr.c4 (eS r c k) (fun s hs=>by
   obtain ⟨p,hp2,rfl⟩:=List.mem_map.1 hs
   exact ⟨p.1,p.2,rfl,hx p hp2,eS_sl r c k p.1 p.2⟩) (by rw [List.length_map];exact hn)
  rw [List.length_map,List.map_map,List.map_map] at h
  have e2:(eS r c k ∘ fun p:Nat×List Int=>sl p.1 p.2) = fun p=>validE r c k p.2:=funext fun p=>eS_sl r c k p.1 p.2
  rw [e2] at h
  rw [press_eq]
  refine h.trans ?_
  unfold openR
  rw [if_neg (show firstE (List.map (fun p:Nat×List Int=>validE r c k p.2) xs) ≠ 0 from hb)];rfl
 ·have e : firstE (xs.map fun p => backE R C K ts p.2) = pressE R C K ts := by
   match xs,hne with
   | p :: xs, _ =>
    show (if backE R C K ts p.2 = 0 then _ else backE R C K ts p.2) = _
    have:backE R C K ts p.2 = pressE R C K ts:=by unfold backE;rw [if_neg hp]
    rw [this,if_neg hp]
  rw [e]
  exact pu_opened_bad n f f0 hl hp
theorem one_S (g:Nat) (x:List Int):(Sl.v 1 (Sl.mk 1 0 (takeL (1 * 1) (dropL 0 ([(Sl.v 1 (sl g x))]:List Value))))) = Sl.v 1 ⟨[(g,x)].length,0,[(g,x)].map fun p:Nat×List Int=>S p.1 p.2⟩:=rfl
theorem first_one (e:Int):firstE [e] = e:=by
 show (if e = 0 then 0 else e) = e
 by_cases h:e = 0
 ·rw [if_pos h,h]
 ·rw [if_neg h]
theorem opened1_bad (n f g : Nat) {R C K : Int} {ts x : List Int} (hl : ts.length ≤ 100) (hx : x.length < 900000) (h : backE R C K ts x ≠ 0) :
 puZ (n + 7) 43 [.agg ⟨[I R,I C,I K,Sl.v 1 (sl f ts)]⟩,(Sl.v 1 (Sl.mk 1 0 (takeL (1 * 1) (dropL 0 ([(Sl.v 1 (sl g x))]:List Value)))))] = some (.tuple ⟨[.pointer none,I (backE R C K ts x)]⟩):=by
 rw [one_S]
 have:=pu_openedZ n f 0 (xs:=[(g,x)]) hl (fun p hp=>by obtain rfl:=List.mem_singleton.1 hp;exact hx) (by simp) (R:=R) (C:=C) (K:=K) (by show firstE [backE R C K ts x] ≠ 0;rw [first_one];exact h) (by simp)
 refine this.trans ?_
 show some (Value.tuple ⟨[.pointer none,I (firstE [backE R C K ts x])]⟩) = _
 rw [first_one]
theorem opened1_good (n f g : Nat) {r c k : Nat} {us : List Nat} {x : List Int} (hg : (r, c, us) ∈ groupsL) (hk : k = 1 ∨ k = 2 ∨ k = 3 ∨ k = 4) (hx : Right r c k x) :
 puZ (n + 7) 43 [pressV r c k f us,(Sl.v 1 (Sl.mk 1 0 (takeL (1 * 1) (dropL 0 ([(Sl.v 1 (sl g x))]:List Value)))))] = some (.tuple ⟨[bedV r c k f us,I 0]⟩):=by
 have hpr:=press_ok hg
 have hrc:r * c≤16:=Nat.mul_le_mul hpr.r4 hpr.c4
 have h:=pu_opened n 0 f (bs:=[sl g x]) hk hg hpr.r1 hpr.r4 hpr.c1 hpr.c4 (fun _=>0) (fun s hs=>by
  obtain rfl:=List.mem_singleton.1 hs
  exact ⟨g,x,rfl,by rw [hx.1];omega,hx.valid.symm⟩) (by simp)
 exact h
theorem turn_both (n f g : Nat) {R C K z : Int} {ts x : List Int} (hl : ts.length ≤ 100) (hx : x.length < 900000) : ∃ fl l e, l.length < 900000 ∧
 puZ (n + 8) 11 [.agg ⟨[I R,I C,I K,Sl.v 1 (sl f ts)]⟩,Sl.v 1 (sl g x),I z] = some (.tuple ⟨[S fl l,I e]⟩)∧puZ (n + 8) 12 [.agg ⟨[I R,I C,I K,Sl.v 1 (sl f ts)]⟩,Sl.v 1 (sl g x),I z] = some (.tuple ⟨[S fl l,I e]⟩):=by
 have hr:puZ (n + 8) 12 [.agg ⟨[I R,I C,I K,Sl.v 1 (sl f ts)]⟩,Sl.v 1 (sl g x),I z] = bb (ieq (backE R C K ts x) 0) (m12_1 (puZ (n + 7)) L (sl g x) z (backE R C K ts x) (nt (decide (z ∈ ts))) R C K (sl f ts)) (m12_1 (puZ (n + 7)) L (sl g x) z (backE R C K ts x) false R C K (sl f ts)):=by
  rw [q12]
  show oo (puZ (n + 7) 46 [.agg ⟨[I R,I C,I K,S f ts]⟩,S g x]) none (fun v590=>(oo (toI .i64 v590) none fun x592=>(bb (ieq x592 (0:Int)) (oo (puZ (n + 6 + 1) 47 [S f ts,I z]) none fun v876=>(oo (vBool v876) none fun b878=>(m12_1 (puZ (n + 7)) L (sl g x) z x592 (nt b878) R C K (sl f ts)))) (m12_1 (puZ (n + 7)) L (sl g x) z x592 false R C K (sl f ts))))) = _
  rw [pu_refvalid n f g hl hx,oo_some,toI_mk,oo_some,pu_has (n + 6) f z (by omega),oo_some,vBool_mk,oo_some]
 by_cases h:backE R C K ts x = 0
 ·rw [hr, h, show ieq (0 : Int) 0 = true from rfl, bb_true]
  obtain ⟨r,c,k,us,rfl,rfl,rfl,rfl,hg,hk,hR⟩:=back_inv h
  have hpr:=press_ok hg
  have hrc:r * c≤16:=Nat.mul_le_mul hpr.r4 hpr.c4
  unfold m12_1
  by_cases hz:z ∈ us.map Int.ofNat
  ·obtain ⟨t, ht, rfl⟩ := List.mem_map.1 hz
   refine ⟨0,pick x (cellL r c t),0,by rw [pick_len,(hpr.row t ht).2.1];omega,?_,?_⟩
   ·show puZ (n + 8) 11 [.agg ⟨[I (.ofNat r), I (.ofNat c), I (.ofNat k), S f (us.map Int.ofNat)]⟩, S g x, I (.ofNat t)] = _
    rw [press_eq]
    exact pu_turn n g f hk hg ht hR
   ·rw [decide_eq_true hz, show nt true = false from rfl, bb_false]
    show oo (puZ (n + 4 + 3) 10480 [.agg ⟨[I (.ofNat r),I (.ofNat c),I (.ofNat k),S f (us.map Int.ofNat)]⟩,S g x,I (.ofNat t)]) none (fun v834=>(oo (vTup v834) none fun l836=>(ll l836 none fun v838 l836=>(ll l836 (oo (toSl 1 v838) none fun s839=>(some (Value.tuple ⟨[(Sl.v 1 s839),(.int .i64 (0:Int))]⟩))) fun _ _=>none)))) = _
    rw [press_eq,pu_turned2 (n + 4) g f hg ht hR.1];rfl
  ·refine ⟨2, [], 2, by simp, ?_, ?_⟩
   ·rw [p11']
    show oo (puZ (n + 7) 43 [.agg ⟨[I (.ofNat r),I (.ofNat c),I (.ofNat k),S f (us.map Int.ofNat)]⟩,(Sl.v 1 (Sl.mk 1 0 (takeL (1 * 1) (dropL 0 ([(Sl.v 1 (sl g x))]:List Value)))))]) none _ = _
    rw [press_eq,opened1_good n f g hg hk hR]
    show oo (puZ (n + 6 + 1) 44 [Sl.v 1 ⟨len us,f,nvL us⟩,I z]) none _ = _
    rw [pu_index (n + 6) f (by have:=hpr.len8;omega) z,idxZ_not fun t ht e=>hz (List.mem_map.2 ⟨t,ht,e.symm⟩)];rfl
   ·rw [decide_eq_false hz];rfl
 ·refine ⟨2, [], backE R C K ts x, by simp, ?_, ?_⟩
  ·rw [p11']
   show oo (puZ (n + 7) 43 [.agg ⟨[I R,I C,I K,Sl.v 1 (sl f ts)]⟩,(Sl.v 1 (Sl.mk 1 0 (takeL (1 * 1) (dropL 0 ([(Sl.v 1 (sl g x))]:List Value)))))]) none _ = _
   rw [opened1_bad n f g hl hx h]
   show bb (nt (ieq (backE R C K ts x) 0)) (some (Value.tuple ⟨[S 2 [],I (backE R C K ts x)]⟩)) _ = _
   rw [ieq_dec,decide_eq_false h];rfl
  ·rw [hr, ieq_dec, decide_eq_false h, bb_false]
   unfold m12_1 m12_0
   rw [bb_false,ieq_dec,decide_eq_false h];rfl
end Go.BkQ
set_option maxRecDepth 100000
set_option maxHeartbeats 4000000
namespace Go.BkQ
open Go Go.Sp Go.BkXM
theorem p13 (k:Nat) (args:List Value):puZ (k + 1) 13 args = m13 (puZ k) L args:=by kernel_rfl
theorem p14 (k:Nat) (args:List Value):puZ (k + 1) 14 args = m14 (puZ k) L args:=by kernel_rfl
noncomputable def alikeE (r c : Nat) (x y : List Int) : List Nat → Int × Int
 | []=>(0,12)
 | t :: us=>if pick x (cellL r c t) = y then (.ofNat t,0) else alikeE r c x y us
theorem pu_turn_at (n f fl:Nat) {r c k t i:Nat} {us:List Nat} {x:List Int} (hg:(r,c,us) ∈ groupsL) (hi:us[i]? = some t) (hx:x.length = r * c):puZ (n + 1) 45 [bedV r c k fl us,S f x,I (.ofNat i)] = some (S 0 (pick x (cellL r c t))):=by
 have hp:=press_ok hg
 have ht:=List.mem_of_getElem? hi
 obtain ⟨_,h1,h2⟩:=hp.row t ht
 have hrc:r * c≤16:=Nat.mul_le_mul hp.r4 hp.c4
 have hii:i < us.length:=(List.getElem?_eq_some_iff.1 hi).1
 exact pu_turned n f 0 (d0 := I (.ofNat r)) (d1 := I (.ofNat c)) (d2 := I (.ofNat k)) (d3 := Sl.v 1 ⟨len us, fl, nvL us⟩) (rows := rowsV r c us) (m := len us) (i := i) (row := cellL r c t) (x := x)
  (by rw [nthL_eq,Nat.mul_one,show rowsV r c us = us.map fun t=>rowV (cellL r c t) from mapL_eq _ _,List.getElem?_map,hi];rfl) (by rw [len_eq];exact hii) (by rw [h1,hx]) (fun k hk=>by rw [hx];exact h2 k hk) (by rw [hx];omega)
theorem pick_length {r c k t:Nat} {us:List Nat} {x:List Int} (hg:(r,c,us) ∈ groupsL) (ht:t ∈ us):(pick x (cellL r c t)).length = r * c:=by
 rw [pick_len,((press_ok hg).row t ht).2.1]
theorem at_drop {us:List Nat} {i t:Nat} {rest:List Nat} (h:us.drop i = t :: rest):us[i]? = some t:=by
 have:=congrArg List.head? h
 rw [List.head?_drop] at this;exact this
theorem alike_loop (n M f g1 g2 : Nat) {r c k : Nat} {us : List Nat} {x y : List Int} (hg : (r, c, us) ∈ groupsL) (hx : x.length = r * c) (hy : y.length = r * c) : ∀ (rest : List Nat) (w i : Nat), us.drop i = rest → rest.length < w →
 l13_1 (puZ (n + 1)) M w (sl g1 x) (sl g2 y) 0 (bedL r c k f us) ⟨len us,f,nvL us⟩ (.ofNat (len us)) (.ofNat i) = some (.tuple ⟨[I (alikeE r c x y rest).1,I (alikeE r c x y rest).2]⟩)
 | _,0,_,_,h=>by omega
 | [], w + 1, i, hd, _ => by
  have h1:us.length≤i:=List.drop_eq_nil_iff.1 hd
  show bb (ilt (.ofNat i) (.ofNat (len us))) _ (some (Value.tuple ⟨[I 0,I 12]⟩)) = _
  rw [ilt_nat,len_eq,decide_eq_false (by omega),bb_false];rfl
 | t :: rest, w + 1, i, hd, hw => by
  obtain ⟨hget,hd2,hi⟩:=getNv hd
  have hrl:(t :: rest).length = rest.length + 1:=rfl
  have hp:=press_ok hg
  have hrc:r * c≤16:=Nat.mul_le_mul hp.r4 hp.c4
  have hat:=at_drop hd
  have hpl:(pick x (cellL r c t)).length = r * c:=pick_length (k:=k) hg (List.mem_of_getElem? hat)
  have ih:=alike_loop n M f g1 g2 (k:=k) hg hx hy rest w (i + 1) hd2 (by omega)
  show b13_1 (puZ (n + 1)) M (l13_1 (puZ (n + 1)) M w) (sl g1 x) (sl g2 y) 0 (bedL r c k f us) ⟨len us,f,nvL us⟩ (.ofNat (len us)) (.ofNat i) = _
  unfold b13_1
  rw [ilt_nat,decide_eq_true (by rw [len_eq];exact hi),bb_true,toN_mk,oo_some]
  show bb (an (Nat.blt i (len us)) true) (oo (nthL (nvL us) (i * 1)) none fun v1041=>(oo (toI .i64 v1041) none fun x1043=>(oo (puZ (n + 1) 45 [bedV r c k f us,S g1 x,I (.ofNat i)]) none fun v1053=>(oo (toSl 1 v1053) none fun s1055=>(oo (puZ (n + 1) 49 [(Sl.v 1 s1055),S g2 y]) none fun v1057=>(oo (vBool v1057) none fun b1059=>(bb b1059 (some (Value.tuple ⟨[(.int .i64 x1043),(.int .i64 (0:Int))]⟩)) (l13_1 (puZ (n + 1)) M w (sl g1 x) (sl g2 y) 0 (bedL r c k f us) ⟨len us,f,nvL us⟩ (.ofNat (len us)) (wrapF .i64 (Int.add (Int.ofNat i) (1:Int))))))))))) none = _
  rw [show Nat.blt i (len us) = true from by rw [blt_eq,len_eq];simpa using hi,show an true true = true from rfl,bb_true,hget,oo_some,toI_mk,oo_some,pu_turn_at n g1 f hg hat hx,oo_some]
  show oo (puZ (n + 1) 49 [S 0 (pick x (cellL r c t)),S g2 y]) none _ = _
  rw [pu_equal n 0 g2 (by omega),oo_some,vBool_mk,oo_some,wrapS i (by have:=hp.len8;omega),ih]
  show bb (decide (pick x (cellL r c t) = y)) (some (Value.tuple ⟨[I (.ofNat t),I 0]⟩)) _ = some (Value.tuple ⟨[I (if pick x (cellL r c t) = y then ((Int.ofNat t,0):Int×Int) else alikeE r c x y rest).1,I (if pick x (cellL r c t) = y then ((Int.ofNat t,0):Int×Int) else alikeE r c x y rest).2]⟩)
  by_cases h:pick x (cellL r c t) = y
  ·rw [decide_eq_true h,if_pos h];rfl
  ·rw [decide_eq_false h,if_neg h];rfl
theorem alike_loop2 (n M f g1 g2 : Nat) {r c k : Nat} {us : List Nat} {x y : List Int} (hg : (r, c, us) ∈ groupsL) (hx : x.length = r * c) (hy : y.length = r * c) : ∀ (rest : List Nat) (w i : Nat), us.drop i = rest → rest.length < w →
 l14_2 (puZ (n + 3)) M w (sl g1 x) (sl g2 y) (.ofNat i) (.ofNat r) (.ofNat c) (.ofNat k) ⟨len us,f,nvL us⟩ = some (.tuple ⟨[I (alikeE r c x y rest).1,I (alikeE r c x y rest).2]⟩)
 | _,0,_,_,h=>by omega
 | [], w + 1, i, hd, _ => by
  have h1:us.length≤i:=List.drop_eq_nil_iff.1 hd
  show bb (ilt (.ofNat i) (.ofNat (len us))) _ (some (Value.tuple ⟨[I 0,I 12]⟩)) = _
  rw [ilt_nat,len_eq,decide_eq_false (by omega),bb_false];rfl
 | t :: rest, w + 1, i, hd, hw => by
  obtain ⟨hget,hd2,hi⟩:=getNv hd
  have hrl:(t :: rest).length = rest.length + 1:=rfl
  have hp:=press_ok hg
  have hrc:r * c≤16:=Nat.mul_le_mul hp.r4 hp.c4
  have hat:=at_drop hd
  have htm:=List.mem_of_getElem? hat
  have hpl:(pick x (cellL r c t)).length = r * c:=pick_length (k:=k) hg htm
  have ih:=alike_loop2 n M f g1 g2 (k:=k) hg hx hy rest w (i + 1) hd2 (by omega)
  show b14_2 (puZ (n + 3)) M (l14_2 (puZ (n + 3)) M w) (sl g1 x) (sl g2 y) (.ofNat i) (.ofNat r) (.ofNat c) (.ofNat k) ⟨len us,f,nvL us⟩ = _
  unfold b14_2
  show bb (ilt (.ofNat i) (.ofNat (len us))) (oo (toN (.ofNat i)) none fun k1281=>(bb (an (Nat.blt k1281 (len us)) true) (oo (nthL (nvL us) (k1281 * 1)) none fun v1284=>(oo (toI .i64 v1284) none fun x1286=>(oo (puZ (n + 3) 10480 [pressV r c k f us,S g1 x,I x1286]) none fun v1294=>(oo (vTup v1294) none fun l1296=>(ll l1296 none fun v1298 l1296=>(ll l1296 (oo (toSl 1 v1298) none fun s1299=>(oo (puZ (n + 3) 50 [(Sl.v 1 s1299),S g2 y]) none fun v1301=>(oo (vBool v1301) none fun b1303=>(bb b1303 (bb (an (Nat.blt k1281 (len us)) true) (oo (nthL (nvL us) (k1281 * 1)) none fun v1312=>(oo (toI .i64 v1312) none fun x1314=>(some (Value.tuple ⟨[(.int .i64 x1314),(.int .i64 (0:Int))]⟩)))) none) (l14_2 (puZ (n + 3)) M w (sl g1 x) (sl g2 y) (wrapF .i64 (Int.add (Int.ofNat k1281) (1:Int))) (.ofNat r) (.ofNat c) (.ofNat k) ⟨len us,f,nvL us⟩))))) fun _ _=>none)))))) none)) _ = _
  have hb:Nat.blt i (len us) = true:=by rw [blt_eq,len_eq];simpa using hi
  rw [ilt_nat,decide_eq_true (by rw [len_eq];exact hi),bb_true,toN_mk,oo_some,hb,show an true true = true from rfl,bb_true,hget,oo_some,toI_mk,oo_some,pu_turned2 n g1 f hg htm hx,oo_some]
  show oo (puZ (n + 2 + 1) 50 [S 0 (pick x (cellL r c t)),S g2 y]) none _ = _
  rw [pu_same50 (n + 2) 0 g2 (by rw [hpl,hy]) (by omega),oo_some,vBool_mk,oo_some,bb_true,oo_some,toI_mk,oo_some,wrapS i (by have:=hp.len8;omega),ih]
  show bb (decide (pick x (cellL r c t) = y)) (some (Value.tuple ⟨[I (.ofNat t),I 0]⟩)) _ = some (Value.tuple ⟨[I (if pick x (cellL r c t) = y then ((Int.ofNat t,0):Int×Int) else alikeE r c x y rest).1,I (if pick x (cellL r c t) = y then ((Int.ofNat t,0):Int×Int) else alikeE r c x y rest).2]⟩)
  by_cases h:pick x (cellL r c t) = y
  ·rw [decide_eq_true h,if_pos h];rfl
  ·rw [decide_eq_false h,if_neg h];rfl
end Go.BkQ
set_option maxRecDepth 100000
set_option maxHeartbeats 4000000
namespace Go.BkQ
open Go Go.Sp Go.BkXM
theorem p15 (k:Nat) (args:List Value):puZ (k + 1) 15 args = m15 (puZ k) L args:=by kernel_rfl
theorem p16 (k:Nat) (args:List Value):puZ (k + 1) 16 args = m16 (puZ k) L args:=by kernel_rfl
theorem two_S (g1 g2:Nat) (x y:List Int):(Sl.v 1 (Sl.mk 2 0 (takeL (2 * 1) (dropL 0 ([(Sl.v 1 (sl g1 x)),(Sl.v 1 (sl g2 y))]:List Value))))) = Sl.v 1 ⟨[(g1,x),(g2,y)].length,0,[(g1,x),(g2,y)].map fun p:Nat×List Int=>S p.1 p.2⟩:=rfl
theorem first_two (a b:Int):firstE [a,b] = if a = 0 then b else a:=by
 show (if a = 0 then firstE [b] else a) = _
 rw [first_one]
theorem alike_both (n f g1 g2 : Nat) {R C K : Int} {ts x y : List Int} (hl : ts.length ≤ 100) (hx : x.length < 900000) (hy : y.length < 900000) : ∃ a e,
 puZ (n + 8) 13 [.agg ⟨[I R,I C,I K,Sl.v 1 (sl f ts)]⟩,Sl.v 1 (sl g1 x),Sl.v 1 (sl g2 y)] = some (.tuple ⟨[I a,I e]⟩)∧puZ (n + 8) 14 [.agg ⟨[I R,I C,I K,Sl.v 1 (sl f ts)]⟩,Sl.v 1 (sl g1 x),Sl.v 1 (sl g2 y)] = some (.tuple ⟨[I a,I e]⟩):=by
 have hr:puZ (n + 8) 14 [.agg ⟨[I R,I C,I K,Sl.v 1 (sl f ts)]⟩,Sl.v 1 (sl g1 x),Sl.v 1 (sl g2 y)] = m14_0 (puZ (n + 7)) L (sl g1 x) (sl g2 y) (if backE R C K ts x = 0 then backE R C K ts y else backE R C K ts x) R C K (sl f ts):=by
  rw [p14]
  show oo (puZ (n + 7) 46 [.agg ⟨[I R,I C,I K,S f ts]⟩,S g1 x]) none (fun v1085=>(oo (toI .i64 v1085) none fun x1087=>(bb (ieq x1087 (0:Int)) (oo (puZ (n + 7) 46 [.agg ⟨[I R,I C,I K,S f ts]⟩,S g2 y]) none fun v1321=>(oo (toI .i64 v1321) none fun x1323=>(m14_0 (puZ (n + 7)) L (sl g1 x) (sl g2 y) x1323 R C K (sl f ts)))) (m14_0 (puZ (n + 7)) L (sl g1 x) (sl g2 y) x1087 R C K (sl f ts))))) = _
  rw [pu_refvalid n f g1 hl hx,oo_some,toI_mk,oo_some,pu_refvalid n f g2 hl hy,oo_some,toI_mk,oo_some,ieq_dec]
  by_cases h:backE R C K ts x = 0
  ·rw [decide_eq_true h,if_pos h];rfl
  ·rw [decide_eq_false h,if_neg h];rfl
 by_cases h:(if backE R C K ts x = 0 then backE R C K ts y else backE R C K ts x) = 0
 ·have h1 : backE R C K ts x = 0 := by
   by_cases h1:backE R C K ts x = 0
   ·exact h1
   ·rw [if_neg h1] at h;exact h
  have h2:backE R C K ts y = 0:=by rw [if_pos h1] at h;exact h
  rw [h] at hr
  obtain ⟨r,c,k,us,rfl,rfl,rfl,rfl,hg,hk,hRx⟩:=back_inv h1
  have hRy:Right r c k y:=by
   have:=h2
   unfold backE at this
   by_cases hp:pressE (Int.ofNat r) (Int.ofNat c) (Int.ofNat k) (us.map Int.ofNat) = 0
   ·rw [if_pos hp] at this;exact valid_right this
   ·rw [if_neg hp] at this;exact absurd this hp
  have hpr:=press_ok hg
  have hrc:r * c≤16:=Nat.mul_le_mul hpr.r4 hpr.c4
  refine ⟨(alikeE r c x y us).1,(alikeE r c x y us).2,?_,?_⟩
  ·have ho := pu_opened n 0 f (bs := [sl g1 x, sl g2 y]) hk hg hpr.r1 hpr.r4 hpr.c1 hpr.c4 (fun _ => 0) (fun s hs => by
    rcases List.mem_cons.1 hs with rfl | hs
    ·exact ⟨g1,x,rfl,hx,hRx.valid.symm⟩
    ·obtain rfl := List.mem_singleton.1 hs
     exact ⟨g2,y,rfl,hy,hRy.valid.symm⟩) (by simp)
   rw [p13]
   show oo (puZ (n + 7) 43 [.agg ⟨[I (.ofNat r),I (.ofNat c),I (.ofNat k),S f (us.map Int.ofNat)]⟩,Sl.v 1 ⟨[sl g1 x,sl g2 y].length,0,[sl g1 x,sl g2 y].map (Sl.v 1)⟩]) none _ = _
   rw [press_eq,ho]
   show oo (some (Value.tuple ⟨[bedV r c k f us,I 0]⟩)) none _ = _
   rw [oo_some]
   show oo (nthL (bedL r c k f us) 3) none (fun v1019=>(oo (toSl 1 v1019) none fun s1021=>(l13_1 (puZ (n + 7)) L L (sl g1 x) (sl g2 y) 0 (bedL r c k f us) s1021 (Int.ofNat (Sl.n s1021)) (0:Int)))) = _
   rw [show nthL (bedL r c k f us) 3 = some (Sl.v 1 ⟨len us,f,nvL us⟩) from rfl,oo_some,toSl_mk,oo_some]
   exact alike_loop (n + 6) L f g1 g2 (k:=k) hg hRx.1 hRy.1 us L 0 List.drop_zero (by have:=hpr.len8;show _ < 1000000;omega)
  ·rw [hr]
   unfold m14_0
   show l14_2 (puZ (n + 7)) L L (sl g1 x) (sl g2 y) (.ofNat 0) (.ofNat r) (.ofNat c) (.ofNat k) (sl f (us.map Int.ofNat)) = _
   rw [sl_us]
   exact alike_loop2 (n + 4) L f g1 g2 (k:=k) hg hRx.1 hRy.1 us L 0 List.drop_zero (by have:=hpr.len8;show _ < 1000000;omega)
 ·refine ⟨0, if backE R C K ts x = 0 then backE R C K ts y else backE R C K ts x, ?_, ?_⟩
  ·have hb : firstE ([(g1, x), (g2, y)].map fun p : Nat × List Int => backE R C K ts p.2) = if backE R C K ts x = 0 then backE R C K ts y else backE R C K ts x := first_two _ _
   have ho:=pu_openedZ n f 0 (R:=R) (C:=C) (K:=K) (xs:=[(g1,x),(g2,y)]) hl (fun p hp=>by
    rcases List.mem_cons.1 hp with rfl | hp
    ·exact hx
    ·obtain rfl := List.mem_singleton.1 hp
     exact hy) (by simp) (by rw [hb];exact h) (by simp)
   rw [hb] at ho
   rw [p13]
   show oo (puZ (n + 7) 43 [.agg ⟨[I R,I C,I K,S f ts]⟩,(Sl.v 1 (Sl.mk 2 0 (takeL (2 * 1) (dropL 0 ([(Sl.v 1 (sl g1 x)),(Sl.v 1 (sl g2 y))]:List Value)))))]) none _ = _
   rw [two_S,ho]
   show bb (nt (ieq (if backE R C K ts x = 0 then backE R C K ts y else backE R C K ts x) 0)) (some (Value.tuple ⟨[I 0,I (if backE R C K ts x = 0 then backE R C K ts y else backE R C K ts x)]⟩)) _ = _
   rw [ieq_dec,decide_eq_false h];rfl
  ·rw [hr]
   unfold m14_0
   rw [ieq_dec,decide_eq_false h];rfl
end Go.BkQ
set_option maxRecDepth 100000
set_option maxHeartbeats 4000000
namespace Go.BkQ
open Go Go.Sp Go.BkXM
noncomputable def staysL (r c:Nat) (x:List Int) (us:List Nat):List Int:=(us.filter fun t=>decide (pick x (cellL r c t) = x)).map Int.ofNat
theorem stays_cons (r c:Nat) (x:List Int) (t:Nat) (us:List Nat):staysL r c x (t :: us) = if pick x (cellL r c t) = x then Int.ofNat t :: staysL r c x us else staysL r c x us:=by
 unfold staysL
 rw [List.filter_cons]
 by_cases h:pick x (cellL r c t) = x
 ·rw [if_pos h,if_pos (by simpa using h)];rfl
 ·rw [if_neg h,if_neg (by simpa using h)]
theorem stays_end (q:List Int):(bb (allL closed1 (q.map I)) (bb (an (Nat.ble (0 + q.length * 1) (len (q.map I))) (allL closed1 (takeL (q.length * 1) (dropL 0 (q.map I))))) (some (Value.tuple ⟨[(Sl.v 1 (Sl.mk q.length 0 (takeL (q.length * 1) (dropL 0 (q.map I))))),(.int .i64 (0:Int))]⟩)) none) none) = some (.tuple ⟨[S 0 q,I 0]⟩):=by
 rw [closedS,bb_true,takeS,fitS,bb_true];rfl
theorem stays_loop (n M f g : Nat) {r c k : Nat} {us : List Nat} {x : List Int} (hg : (r, c, us) ∈ groupsL) (hx : x.length = r * c) : ∀ (rest : List Nat) (w i cc : Nat) (q : List Int), us.drop i = rest → rest.length < w → q.length ≤ i → cc / 2 = q.length → cc % 2 = 0 →
 l15_1 (puZ (n + 1)) M w (sl g x) 0 (bedL r c k f us) q.length cc ⟨len us,f,nvL us⟩ (.ofNat (len us)) (.ofNat i) (q.map I) = some (.tuple ⟨[S 0 (q ++ staysL r c x rest),I 0]⟩)
 | _,0,_,_,_,_,h,_,_,_=>by omega
 | [], w + 1, i, cc, q, hd, _, _, _, _ => by
  have h1:us.length≤i:=List.drop_eq_nil_iff.1 hd
  show bb (allL closed1 (q.map I)) (bb (ilt (.ofNat i) (.ofNat (len us))) _ (bb (allL closed1 (q.map I)) (bb (an (Nat.ble (0 + q.length * 1) (len (q.map I))) (allL closed1 (takeL (q.length * 1) (dropL 0 (q.map I))))) (some (Value.tuple ⟨[(Sl.v 1 (Sl.mk q.length 0 (takeL (q.length * 1) (dropL 0 (q.map I))))),(.int .i64 (0:Int))]⟩)) none) none)) none = _
  rw [stays_end,closedS,bb_true,ilt_nat,len_eq,decide_eq_false (by omega),bb_false,show staysL r c x [] = [] from rfl,List.append_nil]
 | t :: rest, w + 1, i, cc, q, hd, hw, hq, hcc, hcc2 => by
  obtain ⟨hget,hd2,hi⟩:=getNv hd
  have hrl:(t :: rest).length = rest.length + 1:=rfl
  have hp:=press_ok hg
  have hat:=at_drop hd
  obtain ⟨z,hz1,hz2⟩:=pu_changed n g f (k:=k) hg hat hx
  show b15_1 (puZ (n + 1)) M (l15_1 (puZ (n + 1)) M w) (sl g x) 0 (bedL r c k f us) q.length cc ⟨len us,f,nvL us⟩ (.ofNat (len us)) (.ofNat i) (q.map I) = _
  unfold b15_1 m15_2
  show bb (allL closed1 (q.map I)) (bb (ilt (.ofNat i) (.ofNat (len us))) (oo (toN (.ofNat i)) none fun k1668=>(bb (an (Nat.blt k1668 (len us)) true) (oo (nthL (nvL us) (k1668 * 1)) none fun v1671=>(oo (toI .i64 v1671) none fun x1673=>(oo (puZ (n + 1) 51 [bedV r c k f us,S g x,I (.ofNat k1668)]) none fun v1679=>(oo (toI .u16 v1679) none fun x1681=>(bb (ieq x1681 (0:Int)) (bb (growC 1 8 q.length cc 1 (q.map I)) (bb (allL closed1 (appL (dropL 0 (q.map I)) [(.int .i64 x1673)])) (bb (allL closed1 (appL (dropL 0 (q.map I)) [(.int .i64 x1673)])) (l15_1 (puZ (n + 1)) M w (sl g x) 0 (bedL r c k f us) (q.length + 1) (2 * (q.length + 1) + bb false 1 0) ⟨len us,f,nvL us⟩ (.ofNat (len us)) (wrapF .i64 (Int.add (Int.ofNat k1668) (1:Int))) (appL (dropL 0 (q.map I)) [(.int .i64 x1673)])) none) none) none) (bb (allL closed1 (q.map I)) (l15_1 (puZ (n + 1)) M w (sl g x) 0 (bedL r c k f us) q.length cc ⟨len us,f,nvL us⟩ (.ofNat (len us)) (wrapF .i64 (Int.add (Int.ofNat k1668) (1:Int))) (q.map I)) none)))))) none)) _) none = _
  rw [closedS,bb_true,ilt_nat,decide_eq_true (by rw [len_eq];exact hi),bb_true,toN_mk,oo_some,show Nat.blt i (len us) = true from by rw [blt_eq,len_eq];simpa using hi,show an true true = true from rfl,bb_true,hget,oo_some,toI_mk,oo_some,hz1,oo_some,toI_mk16,oo_some,growS (by have:=hp.len8;omega) hcc hcc2,bb_true,snocS,closedS,bb_true,bb_true,bb_true,wrapS i (by have:=hp.len8;omega),show ieq (Int.ofNat z) (0:Int) = ieq (Int.ofNat z) (Int.ofNat 0) from rfl,ieq_nat,stays_cons]
  by_cases h:pick x (cellL r c t) = x
  ·rw [if_pos h, hz2.2 h]
   have ih:=stays_loop n M f g (k:=k) hg hx rest w (i + 1) (2 * (q.length + 1) + bb false 1 0) (q ++ [Int.ofNat t]) hd2 (by omega) (by simp;omega) (by rw [List.length_append];show (2 * (q.length + 1) + 0) / 2 = q.length + 1;omega) (by show (2 * (q.length + 1) + 0) % 2 = 0;omega)
   rw [List.length_append,List.append_assoc] at ih
   exact ih
  ·rw [if_neg h, show Nat.beq z 0 = false from by cases e : Nat.beq z 0 with | false => rfl | true => exact absurd (hz2.1 (Nat.eq_of_beq_eq_true e)) h, bb_false]
   exact stays_loop n M f g (k:=k) hg hx rest w (i + 1) cc q hd2 (by omega) (by omega) hcc hcc2
theorem stays_loop2 (n M f g : Nat) {r c k : Nat} {us : List Nat} {x : List Int} (hg : (r, c, us) ∈ groupsL) (hx : x.length = r * c) : ∀ (rest : List Nat) (w i cc : Nat) (q : List Int), us.drop i = rest → rest.length < w → q.length ≤ i → cc / 2 = q.length → cc % 2 = 0 →
 l16_1 (puZ (n + 3)) M w (sl g x) q.length cc (.ofNat i) (.ofNat r) (.ofNat c) (.ofNat k) ⟨len us,f,nvL us⟩ (q.map I) = some (.tuple ⟨[S 0 (q ++ staysL r c x rest),I 0]⟩)
 | _,0,_,_,_,_,h,_,_,_=>by omega
 | [], w + 1, i, cc, q, hd, _, _, _, _ => by
  have h1:us.length≤i:=List.drop_eq_nil_iff.1 hd
  show bb (allL closed1 (q.map I)) (bb (ilt (.ofNat i) (.ofNat (len us))) _ (bb (allL closed1 (q.map I)) (bb (an (Nat.ble (0 + q.length * 1) (len (q.map I))) (allL closed1 (takeL (q.length * 1) (dropL 0 (q.map I))))) (some (Value.tuple ⟨[(Sl.v 1 (Sl.mk q.length 0 (takeL (q.length * 1) (dropL 0 (q.map I))))),(.int .i64 (0:Int))]⟩)) none) none)) none = _
  rw [stays_end,closedS,bb_true,ilt_nat,len_eq,decide_eq_false (by omega),bb_false,show staysL r c x [] = [] from rfl,List.append_nil]
 | t :: rest, w + 1, i, cc, q, hd, hw, hq, hcc, hcc2 => by
  obtain ⟨hget,hd2,hi⟩:=getNv hd
  have hrl:(t :: rest).length = rest.length + 1:=rfl
  have hp:=press_ok hg
  have hrc:r * c≤16:=Nat.mul_le_mul hp.r4 hp.c4
  have hat:=at_drop hd
  have htm:=List.mem_of_getElem? hat
  have hpl:(pick x (cellL r c t)).length = r * c:=pick_length (k:=k) hg htm
  have hb:Nat.blt i (len us) = true:=by rw [blt_eq,len_eq];simpa using hi
  show b16_1 (puZ (n + 3)) M (l16_1 (puZ (n + 3)) M w) (sl g x) q.length cc (.ofNat i) (.ofNat r) (.ofNat c) (.ofNat k) ⟨len us,f,nvL us⟩ (q.map I) = _
  unfold b16_1 m16_2
  show bb (allL closed1 (q.map I)) (bb (ilt (.ofNat i) (.ofNat (len us))) (oo (toN (.ofNat i)) none fun k2298=>(bb (an (Nat.blt k2298 (len us)) true) (oo (nthL (nvL us) (k2298 * 1)) none fun v2301=>(oo (toI .i64 v2301) none fun x2303=>(oo (puZ (n + 3) 10480 [pressV r c k f us,S g x,I x2303]) none fun v2311=>(oo (vTup v2311) none fun l2313=>(ll l2313 none fun v2315 l2313=>(ll l2313 (oo (toSl 1 v2315) none fun s2316=>(oo (puZ (n + 3) 50 [(Sl.v 1 s2316),S g x]) none fun v2318=>(oo (vBool v2318) none fun b2320=>(bb b2320 (bb (an (Nat.blt k2298 (len us)) true) (oo (nthL (nvL us) (k2298 * 1)) none fun v2330=>(oo (toI .i64 v2330) none fun x2332=>(bb (growC 1 8 q.length cc 1 (q.map I)) (bb (allL closed1 (appL (dropL 0 (q.map I)) [(.int .i64 x2332)])) (bb (allL closed1 (appL (dropL 0 (q.map I)) [(.int .i64 x2332)])) (l16_1 (puZ (n + 3)) M w (sl g x) (q.length + 1) (2 * (q.length + 1) + bb false 1 0) (wrapF .i64 (Int.add (Int.ofNat k2298) (1:Int))) (.ofNat r) (.ofNat c) (.ofNat k) ⟨len us,f,nvL us⟩ (appL (dropL 0 (q.map I)) [(.int .i64 x2332)])) none) none) none))) none) (bb (allL closed1 (q.map I)) (l16_1 (puZ (n + 3)) M w (sl g x) q.length cc (wrapF .i64 (Int.add (Int.ofNat k2298) (1:Int))) (.ofNat r) (.ofNat c) (.ofNat k) ⟨len us,f,nvL us⟩ (q.map I)) none))))) fun _ _=>none)))))) none)) _) none = _
  rw [closedS,bb_true,ilt_nat,decide_eq_true (by rw [len_eq];exact hi),bb_true,toN_mk,oo_some,hb,show an true true = true from rfl,bb_true,hget,oo_some,toI_mk,oo_some,pu_turned2 n g f hg htm hx,oo_some]
  show oo (puZ (n + 2 + 1) 50 [S 0 (pick x (cellL r c t)),S g x]) none _ = _
  rw [pu_same50 (n + 2) 0 g (by rw [hpl,hx]) (by omega),oo_some,vBool_mk,oo_some,bb_true,oo_some,toI_mk,oo_some,growS (by have:=hp.len8;omega) hcc hcc2,bb_true,snocS,closedS,bb_true,bb_true,bb_true,wrapS i (by have:=hp.len8;omega),stays_cons]
  by_cases h:pick x (cellL r c t) = x
  ·rw [if_pos h, decide_eq_true h]
   have ih:=stays_loop2 n M f g (k:=k) hg hx rest w (i + 1) (2 * (q.length + 1) + bb false 1 0) (q ++ [Int.ofNat t]) hd2 (by omega) (by simp;omega) (by rw [List.length_append];show (2 * (q.length + 1) + 0) / 2 = q.length + 1;omega) (by show (2 * (q.length + 1) + 0) % 2 = 0;omega)
   rw [List.length_append,List.append_assoc] at ih
   exact ih
  ·rw [if_neg h, decide_eq_false h, bb_false]
   exact stays_loop2 n M f g (k:=k) hg hx rest w (i + 1) cc q hd2 (by omega) (by omega) hcc hcc2
end Go.BkQ
set_option maxRecDepth 100000
set_option maxHeartbeats 4000000
namespace Go.BkQ
open Go Go.Sp Go.BkXM
theorem stays_len (r c:Nat) (x:List Int) (us:List Nat):(staysL r c x us).length≤us.length:=by
 unfold staysL
 rw [List.length_map]
 exact List.length_filter_le _ _
theorem stays_both (n f g : Nat) {R C K : Int} {ts x : List Int} (hl : ts.length ≤ 100) (hx : x.length < 900000) : ∃ fl l e, l.length < 900000 ∧
 puZ (n + 8) 15 [.agg ⟨[I R,I C,I K,Sl.v 1 (sl f ts)]⟩,Sl.v 1 (sl g x)] = some (.tuple ⟨[S fl l,I e]⟩)∧puZ (n + 8) 16 [.agg ⟨[I R,I C,I K,Sl.v 1 (sl f ts)]⟩,Sl.v 1 (sl g x)] = some (.tuple ⟨[S fl l,I e]⟩):=by
 have hr:puZ (n + 8) 16 [.agg ⟨[I R,I C,I K,Sl.v 1 (sl f ts)]⟩,Sl.v 1 (sl g x)] = bb (nt (ieq (backE R C K ts x) 0)) (some (.tuple ⟨[S 2 [],I (backE R C K ts x)]⟩)) (l16_1 (puZ (n + 7)) L L (sl g x) 0 0 (0:Int) R C K (sl f ts) ([]:List Value)):=by
  rw [p16]
  show oo (puZ (n + 7) 46 [.agg ⟨[I R,I C,I K,S f ts]⟩,S g x]) none (fun v1708=>(oo (toI .i64 v1708) none fun x1710=>(bb (nt (ieq x1710 (0:Int))) (some (Value.tuple ⟨[S 2 [],(.int .i64 x1710)]⟩)) (l16_1 (puZ (n + 7)) L L (sl g x) 0 0 (0:Int) R C K (sl f ts) ([]:List Value))))) = _
  rw [pu_refvalid n f g hl hx,oo_some,toI_mk,oo_some]
 by_cases h:backE R C K ts x = 0
 ·obtain ⟨r, c, k, us, rfl, rfl, rfl, rfl, hg, hk, hR⟩ := back_inv h
  have hpr:=press_ok hg
  refine ⟨0,staysL r c x us,0,by have:=stays_len r c x us;have:=hpr.len8;omega,?_,?_⟩
  ·rw [p15]
   show oo (puZ (n + 7) 43 [.agg ⟨[I (.ofNat r),I (.ofNat c),I (.ofNat k),S f (us.map Int.ofNat)]⟩,(Sl.v 1 (Sl.mk 1 0 (takeL (1 * 1) (dropL 0 ([(Sl.v 1 (sl g x))]:List Value)))))]) none _ = _
   rw [press_eq,opened1_good n f g hg hk hR,oo_some]
   show oo (nthL (bedL r c k f us) 3) none (fun v1585=>(oo (toSl 1 v1585) none fun s1587=>(l15_1 (puZ (n + 7)) L L (sl g x) 0 (bedL r c k f us) 0 0 s1587 (Int.ofNat (Sl.n s1587)) (0:Int) ([]:List Value)))) = _
   rw [show nthL (bedL r c k f us) 3 = some (Sl.v 1 ⟨len us,f,nvL us⟩) from rfl,oo_some,toSl_mk,oo_some]
   exact stays_loop (n + 6) L f g (k:=k) hg hR.1 us L 0 0 [] List.drop_zero (by have:=hpr.len8;show _ < 1000000;omega) (Nat.le_refl _) rfl rfl
  ·rw [hr, h, show nt (ieq (0 : Int) 0) = false from rfl, bb_false, sl_us]
   exact stays_loop2 (n + 4) L f g (k:=k) hg hR.1 us L 0 0 [] List.drop_zero (by have:=hpr.len8;show _ < 1000000;omega) (Nat.le_refl _) rfl rfl
 ·refine ⟨2, [], backE R C K ts x, by simp, ?_, ?_⟩
  ·rw [p15]
   show oo (puZ (n + 7) 43 [.agg ⟨[I R,I C,I K,Sl.v 1 (sl f ts)]⟩,(Sl.v 1 (Sl.mk 1 0 (takeL (1 * 1) (dropL 0 ([(Sl.v 1 (sl g x))]:List Value)))))]) none _ = _
   rw [opened1_bad n f g hl hx h]
   show bb (nt (ieq (backE R C K ts x) 0)) (some (Value.tuple ⟨[S 2 [],I (backE R C K ts x)]⟩)) _ = _
   rw [ieq_dec,decide_eq_false h];rfl
  ·rw [hr,ieq_dec,decide_eq_false h];rfl
end Go.BkQ
set_option maxRecDepth 100000
set_option maxHeartbeats 4000000
namespace Go.BkQ
open Go Go.Sp Go.BkXM
theorem p9 (k:Nat) (args:List Value):puZ (k + 1) 9 args = m9 (puZ k) L args:=by kernel_rfl
theorem turnedLaw (n f g1 g2:Nat) {R C K z:Int} {ts x y:List Int}:puZ (n + 9) 3 [.agg ⟨[I R,I C,I K,S f ts]⟩,S g1 x,S g2 y,I z] = some (.bool true):=by
 have e:puZ (n + 9) 3 [.agg ⟨[I R,I C,I K,S f ts]⟩,S g1 x,S g2 y,I z] = m3_ (puZ (n + 8)) L R C K (sl f ts) (sl g1 x) (sl g2 y) z:=by kernel_rfl
 rw [e]
 unfold m3_
 have e1:puZ (n + 8) 9 [(.agg ⟨[(.int .i64 R),(.int .i64 C),(.int .i64 K),(Sl.v 1 (sl f ts))]⟩),(Sl.v 1 (sl g1 x)),(Sl.v 1 (sl g2 y))] = some (.bool (decide (30 < ts.length∨60 < x.length∨60 < y.length))):=by
  rw [p9]
  show bb (ilt (.ofNat 30) (.ofNat ts.length)) (some (Value.bool true)) (bb (ilt (.ofNat 60) (.ofNat x.length)) (some (Value.bool true)) (some (Value.bool (ilt (.ofNat 60) (.ofNat y.length))))) = _
  rw [ilt_nat,ilt_nat,ilt_nat]
  by_cases h1:30 < ts.length
  ·rw [decide_eq_true h1,decide_eq_true (.inl h1:30 < ts.length∨60 < x.length∨60 < y.length)];rfl
  ·rw [decide_eq_false h1]
   by_cases h2:60 < x.length
   ·rw [decide_eq_true h2,decide_eq_true (.inr (.inl h2):30 < ts.length∨60 < x.length∨60 < y.length)];rfl
   ·rw [decide_eq_false h2]
    by_cases h3:60 < y.length
    ·rw [decide_eq_true h3,decide_eq_true (.inr (.inr h3):30 < ts.length∨60 < x.length∨60 < y.length)];rfl
    ·rw [decide_eq_false h3,show decide (30 < ts.length∨60 < x.length∨60 < y.length) = false from decide_eq_false (by omega)];rfl
 rw [e1,oo_some]
 show bb (decide (30 < ts.length∨60 < x.length∨60 < y.length)) (oo (puZ (n + 7 + 1) 10 []) none fun v84=>(oo (vBool v84) none fun b86=>(some (Value.bool b86)))) _ = _
 by_cases hl:30 < ts.length∨60 < x.length∨60 < y.length
 ·rw [decide_eq_true hl,bb_true,p10];rfl
 ·obtain ⟨fl, l, e2, hll, t1, t2⟩ := turn_both n f g1 (R := R) (C := C) (K := K) (z := z) (ts := ts) (x := x) (by omega) (by omega)
  obtain ⟨a,e3,a1,a2⟩:=alike_both n f g1 g2 (R:=R) (C:=C) (K:=K) (ts:=ts) (x:=x) (y:=y) (by omega) (by omega) (by omega)
  obtain ⟨fl2,l2,e4,hll2,s1,s2⟩:=stays_both n f g1 (R:=R) (C:=C) (K:=K) (ts:=ts) (x:=x) (by omega) (by omega)
  rw [decide_eq_false hl,bb_false,t1,oo_some]
  show oo (puZ (n + 8) 12 [(.agg ⟨[(.int .i64 R),(.int .i64 C),(.int .i64 K),(Sl.v 1 (sl f ts))]⟩),(Sl.v 1 (sl g1 x)),(.int .i64 z)]) none _ = _
  rw [t2,oo_some]
  show oo (puZ (n + 8) 13 [(.agg ⟨[(.int .i64 R),(.int .i64 C),(.int .i64 K),(Sl.v 1 (sl f ts))]⟩),(Sl.v 1 (sl g1 x)),(Sl.v 1 (sl g2 y))]) none _ = _
  rw [a1,oo_some]
  show oo (puZ (n + 8) 14 [(.agg ⟨[(.int .i64 R),(.int .i64 C),(.int .i64 K),(Sl.v 1 (sl f ts))]⟩),(Sl.v 1 (sl g1 x)),(Sl.v 1 (sl g2 y))]) none _ = _
  rw [a2,oo_some]
  show oo (puZ (n + 8) 15 [(.agg ⟨[(.int .i64 R),(.int .i64 C),(.int .i64 K),(Sl.v 1 (sl f ts))]⟩),(Sl.v 1 (sl g1 x))]) none _ = _
  rw [s1,oo_some]
  show oo (puZ (n + 8) 16 [(.agg ⟨[(.int .i64 R),(.int .i64 C),(.int .i64 K),(Sl.v 1 (sl f ts))]⟩),(Sl.v 1 (sl g1 x))]) none _ = _
  rw [s2,oo_some]
  show oo (puZ (n + 7 + 1) 17 [S fl l,S fl l]) none _ = _
  rw [pu_same (n + 7) fl fl hll,oo_some,vBool_mk,oo_some,decide_eq_true rfl,bb_true]
  show bb (ieq e2 e2) (bb (ieq a a) (bb (ieq e3 e3) (oo (puZ (n + 7 + 1) 17 [S fl2 l2,S fl2 l2]) none fun v307=>(oo (vBool v307) none fun b309=>(bb b309 (bb (ieq e4 e4) (oo (puZ (n + 7 + 1) 10 []) none fun v313=>(oo (vBool v313) none fun b315=>(some (Value.bool b315)))) (some (Value.bool false))) (some (Value.bool false))))) (some (Value.bool false))) (some (Value.bool false))) (some (Value.bool false)) = _
  rw [ieq_dec,ieq_dec,ieq_dec,ieq_dec,decide_eq_true rfl,decide_eq_true rfl,decide_eq_true rfl,decide_eq_true rfl,bb_true,bb_true,bb_true,pu_same (n + 7) fl2 fl2 hll2,oo_some,vBool_mk,oo_some,decide_eq_true rfl,bb_true,bb_true,p10];rfl
end Go.BkQ
