/- Gaps, both sides. -/
import Derived.Test.YtenlanbdolnhhaaRgEL61x
import Derived.Test.YtenlanbdolnhhaaRgELwx

set_option maxRecDepth 100000
set_option maxHeartbeats 4000000
namespace Go.RgP
open Go Go.Sp Go.RgEM
def gapAt (n:Nat) (l:List Nat) (i:Nat):Nat:=plc n ((((l[(i + 1) % l.length]?).getD 0:Nat):Int) - (((l[i]?).getD 0:Nat):Int) - 1) + 1
theorem up_at {l:List Nat} (h:l.Pairwise (· < ·)) {i j a b:Nat} (hi:l[i]? = some a) (hj:l[j]? = some b) (hij:i < j):a < b:=by
 obtain ⟨h1,rfl⟩:=List.getElem?_eq_some_iff.1 hi
 obtain ⟨h2,rfl⟩:=List.getElem?_eq_some_iff.1 hj
 exact List.pairwise_iff_getElem.1 h i j h1 h2 hij
theorem gap_spec {n:Nat} {l:List Nat} (h:Good n l) {i m:Nat} (hi:l[i]? = some m):gapAt n l i≤n∧0 < gapAt n l i∧(m + gapAt n l i) % n ∈ l∧∀ d,0 < d→d < gapAt n l i→(m + d) % n ∉ l:=by
 have hn0:=h.pos
 have hil:i < l.length:=(List.getElem?_eq_some_iff.1 hi).1
 have hm:=h.lt m (List.mem_of_getElem? hi)
 have hmod:(i + 1) % l.length < l.length:=Nat.mod_lt _ (by omega)
 obtain ⟨x,hx⟩:∃ x,l[(i + 1) % l.length]? = some x:=⟨l[(i + 1) % l.length],by simp [hmod]⟩
 have hxm:=List.mem_of_getElem? hx
 have hxn:=h.lt x hxm
 have hg:gapAt n l i = plc n ((x:Int) - (m:Int) - 1) + 1:=by unfold gapAt;rw [hx,hi];rfl
 have hpl:=plc_lt hn0 ((x:Int) - (m:Int) - 1)
 by_cases hlast:i + 1 < l.length
 ·rw [Nat.mod_eq_of_lt hlast] at hx
  have hmx:=up_at h.up hi hx (by omega)
  have e:plc n ((x:Int) - (m:Int) - 1) = x - m - 1:=by
   rw [show (x:Int) - (m:Int) - 1 = ((x - m - 1:Nat):Int) by omega,plc_nat]
   exact Nat.mod_eq_of_lt (by omega)
  rw [hg,e]
  refine ⟨by omega,by omega,?_,fun d d1 d2 hd=>?_⟩
  ·rw [show m + (x - m - 1 + 1) = x by omega,Nat.mod_eq_of_lt hxn];exact hxm
  ·rw [Nat.mod_eq_of_lt (by omega)] at hd
   obtain ⟨j,hj⟩:=List.getElem?_of_mem hd
   by_cases h1:j≤i
   ·rcases Nat.lt_or_eq_of_le h1 with h2 | h2
    ·have:=up_at h.up hj hi h2;omega
    ·subst h2;rw [hi] at hj;injection hj;omega
   ·by_cases h2 : j = i + 1
    ·subst h2;rw [hx] at hj;injection hj;omega
    ·have:=up_at h.up hx hj (by omega);omega
 ·have hlen : l.length = i + 1 := by omega
  rw [hlen,Nat.mod_self] at hx
  have hxm':x≤m:=by
   rcases Nat.eq_zero_or_pos i with h0 | h0
   ·subst h0;rw [hi] at hx;injection hx;omega
   ·have:=up_at h.up hx hi h0;omega
  have e:plc n ((x:Int) - (m:Int) - 1) = x + n - m - 1:=by
   have e0:(x:Int) - (m:Int) - 1 = ((x + n - m - 1:Nat):Int) + (n:Int) * (-1):=by omega
   rw [e0]
   unfold plc
   rw [Int.add_mul_emod_self_left]
   have:=plc_nat (n:=n) (x + n - m - 1)
   unfold plc at this
   rw [this]
   exact Nat.mod_eq_of_lt (by omega)
  rw [hg,e]
  refine ⟨by omega,by omega,?_,fun d d1 d2 hd=>?_⟩
  ·rw [show m + (x + n - m - 1 + 1) = x + n by omega,Nat.add_mod_right,Nat.mod_eq_of_lt hxn];exact hxm
  ·by_cases h1 : m + d < n
   ·rw [Nat.mod_eq_of_lt h1] at hd
    obtain ⟨j,hj⟩:=List.getElem?_of_mem hd
    have hjl:j < l.length:=(List.getElem?_eq_some_iff.1 hj).1
    rcases Nat.lt_or_eq_of_le (show j≤i by omega) with h2 | h2
    ·have:=up_at h.up hj hi h2;omega
    ·subst h2;rw [hi] at hj;injection hj;omega
   ·rw [Nat.mod_eq_sub_mod (by omega), Nat.mod_eq_of_lt (by omega)] at hd
    obtain ⟨j,hj⟩:=List.getElem?_of_mem hd
    rcases Nat.eq_zero_or_pos j with h2 | h2
    ·subst h2;rw [hx] at hj;injection hj;omega
    ·have:=up_at h.up hx hj h2;omega
theorem gaps_loop (k : Nat) {n : Nat} {l : List Nat} (h : Good n l) (f s : Nat) (z : Int) : ∀ (j w i c : Nat) (q : List Nat), j < w → i + j = l.length → q.length = i → c / 2 = q.length → c % 2 = 0 →
 l15_1 (puN (k + 1)) L w q.length c ⟨l.length,f,vL l⟩ (Int.ofNat l.length) (Int.ofNat i) z ⟨l.length,f,vL l⟩ (Int.ofNat n) (Int.ofNat s) (vL q) = some (tup2 (slv (q ++ (List.range' i j).map (gapAt n l))) (IV 0))
 | j,0,_,_,_,hw,_,_,_,_=>by omega
 | 0, w + 1, i, c, q, _, hk, _, _, _ => by
  show b15_1 (puN (k + 1)) L (l15_1 (puN (k + 1)) L w) q.length c ⟨l.length,f,vL l⟩ (Int.ofNat l.length) (Int.ofNat i) z ⟨l.length,f,vL l⟩ (Int.ofNat n) (Int.ofNat s) (vL q) = _
  unfold b15_1
  rw [vL_closed,bb_true,ilt_nat,show Nat.blt i l.length = false from by rw [blt_eq];simp;omega,bb_false]
  unfold m15_0
  have e1:takeL (q.length * 1) (dropL 0 (vL q)) = vL q:=by
   rw [takeL_eq,dropL_eq,List.drop_zero,Nat.mul_one,←vL_len q,List.take_length]
  rw [e1,vL_closed,bb_true,len_eq,vL_len,show Nat.ble (0 + q.length * 1) q.length = true from Nat.ble_eq_true_of_le (by omega)]
  show _ = some (tup2 (slv (q ++ [])) (IV 0))
  rw [List.append_nil];rfl
 | j + 1, w + 1, i, c, q, hw, hk, hq, hc, hc2 => by
  show b15_1 (puN (k + 1)) L (l15_1 (puN (k + 1)) L w) q.length c ⟨l.length,f,vL l⟩ (Int.ofNat l.length) (Int.ofNat i) z ⟨l.length,f,vL l⟩ (Int.ofNat n) (Int.ofNat s) (vL q) = _
  have hn:=h.le
  have hfew:=h.few
  have hn0:=h.pos
  have hil:i < l.length:=by omega
  obtain ⟨m,hm⟩:∃ m,l[i]? = some m:=⟨l[i],by simp [hil]⟩
  have hmod:(i + 1) % l.length < l.length:=Nat.mod_lt _ (by omega)
  obtain ⟨x,hx⟩:∃ x,l[(i + 1) % l.length]? = some x:=⟨l[(i + 1) % l.length],by simp [hmod]⟩
  have hmn:=h.lt m (List.mem_of_getElem? hm)
  have hxn:=h.lt x (List.mem_of_getElem? hx)
  have hg:gapAt n l i = plc n ((x:Int) - (m:Int) - 1) + 1:=by unfold gapAt;rw [hx,hm];rfl
  have hpl:=plc_lt hn0 ((x:Int) - (m:Int) - 1)
  have c1:nthL (vL l) (i * 1) = some (IV (Int.ofNat m)):=by
   rw [nthL_eq,Nat.mul_one];unfold vL
   rw [List.getElem?_map,hm];rfl
  have c2:nthL (vL l) ((i + 1) % l.length * 1) = some (IV (Int.ofNat x)):=by
   rw [nthL_eq,Nat.mul_one];unfold vL
   rw [List.getElem?_map,hx];rfl
  have hlt:Nat.blt i l.length = true:=by rw [blt_eq];simp;omega
  have hlt2:Nat.blt ((i + 1) % l.length) l.length = true:=by rw [blt_eq];simpa using hmod
  have e2:Int.tmod (wrapF .i64 (Int.add (Int.ofNat i) (1:Int))) (Int.ofNat l.length) = Int.ofNat ((i + 1) % l.length):=by
   rw [wrapS i (by omega)]
   show Int.tmod ((i + 1:Nat):Int) (l.length:Int) = _
   rw [Int.tmod_eq_emod_of_nonneg (by omega),←Int.natCast_emod];rfl
  have e3:wrapF .i64 (Int.sub (wrapF .i64 (Int.sub (Int.ofNat x) (Int.ofNat m))) (1:Int)) = (x:Int) - (m:Int) - 1:=by
   show wrapF .i64 (wrapF .i64 ((x:Int) - (m:Int)) - 1) = _
   rw [wrapI ((x:Int) - (m:Int)) (by omega) (by omega),wrapI _ (by omega) (by omega)]
  have hne:ieq (Int.ofNat l.length) 0 = false:=by rw [show (0:Int) = Int.ofNat 0 from rfl,ieq_nat];exact beq_ne (by omega)
  have ih:=gaps_loop k h f s z j w (i + 1) (2 * (q.length + 1) + bb false 1 0) (q ++ [gapAt n l i]) (by omega) (by omega) (by simp;omega) (by simp) (by simp)
  rw [List.length_append,show [gapAt n l i].length = 1 from rfl] at ih
  unfold b15_1
  rw [vL_closed,bb_true,ilt_nat,hlt,bb_true,show toN (Int.ofNat i) = some i from rfl,oo_some]
  show bb (an (Nat.blt i l.length) true) (oo (nthL (vL l) (i * 1)) none _) none = _
  rw [hlt,show an true true = true from rfl,bb_true,c1,oo_some,show ∀ z,toI .i64 (IV z) = some z from fun _=>rfl,oo_some]
  show bb (nt (ieq (Int.ofNat l.length) (0:Int))) (oo (toN (Int.tmod (wrapF .i64 (Int.add (Int.ofNat i) (1:Int))) (Int.ofNat l.length))) none _) none = _
  rw [hne,show nt false = true from rfl,bb_true,e2,show ∀ j,toN (Int.ofNat j) = some j from fun _=>rfl,oo_some]
  show bb (an (Nat.blt ((i + 1) % l.length) l.length) true) (oo (nthL (vL l) ((i + 1) % l.length * 1)) none _) none = _
  rw [hlt2,show an true true = true from rfl,bb_true,c2,oo_some,show ∀ z,toI .i64 (IV z) = some z from fun _=>rfl,oo_some,e3]
  show oo (puN (k + 1) 62 [tv n s,IV ((x:Int) - (m:Int) - 1)]) none _ = _
  rw [pu_on2 k hn0 (by omega),oo_some]
  show bb (growC 1 8 q.length c 1 (vL q)) (bb (allL closed1 (appL (dropL 0 (vL q)) [.int .i64 (wrapF .i64 (Int.add (Int.ofNat (plc n ((x:Int) - (m:Int) - 1))) (1:Int)))])) (l15_1 (puN (k + 1)) L w (q.length + 1) (2 * (q.length + 1) + bb false 1 0) ⟨l.length,f,vL l⟩ (Int.ofNat l.length) (wrapF .i64 (Int.add (Int.ofNat i) (1:Int))) z ⟨l.length,f,vL l⟩ (Int.ofNat n) (Int.ofNat s) (appL (dropL 0 (vL q)) [.int .i64 (wrapF .i64 (Int.add (Int.ofNat (plc n ((x:Int) - (m:Int) - 1))) (1:Int)))])) none) none = _
  rw [wrapS _ (by omega),←hg,grow_vL (by omega) hc hc2,bb_true,vL_snoc,vL_closed,bb_true,wrapS i (by omega),ih,List.append_assoc,List.range'_succ];rfl
theorem p15 (k:Nat) (args:List Value):puN (k + 1) 15 args = m15 (puN k) L args:=by kernel_rfl
noncomputable def nilQ:Value:=Sl.v 1 (Sl.mk 0 2 [])
noncomputable def gapsV (n:Nat) (l:List Nat):Value:=bif Nat.beq l.length 0 then tup2 nilQ (IV 4) else tup2 (slv ((List.range l.length).map (gapAt n l))) (IV 0)
theorem bits_zero {n:Nat} {l:List Nat} (h:Good n l):Nat.beq (bitsOf l) 0 = Nat.beq l.length 0:=by
 cases l with
 | nil=>rfl
 | cons x l =>
  have:bitsOf (x :: l) ≠ 0:=fun e=>by
   have:=bitsOf_bit (x :: l) x
   rw [e,Nat.zero_testBit] at this
   simp at this
  rw [beq_ne this,beq_ne (by simp)]
theorem pu_gaps (k f:Nat) {n:Nat} {l:List Nat} (h:Good n l):puN (k + 3) 15 [seaF n f l] = some (gapsV n l):=by
 have hn:=h.le
 have hfew:=h.few
 rw [p15]
 show oo (puN (k + 2) 61 [seaF n f l]) none _ = _
 rw [show puN (k + 2) 61 [seaF n f l] = _ from pu_opened k f h.pos h.le h.few h.up h.lt,oo_some]
 show bb (ieq (Int.ofNat (bitsOf l)) (Int.ofNat 0)) (some (tup2 nilQ (IV 4))) (l15_1 (puN (k + 2)) L L 0 0 ⟨l.length,f,vL l⟩ (Int.ofNat l.length) (Int.ofNat 0) (Int.ofNat n) ⟨l.length,f,vL l⟩ (Int.ofNat n) (Int.ofNat (bitsOf l)) []) = _
 have hl:=gaps_loop (k + 1) h f (bitsOf l) (Int.ofNat n) l.length L 0 0 [] (by show _ < 1000000;omega) (by omega) rfl rfl rfl
 rw [show k + 1 + 1 = k + 2 from rfl,←List.range_eq_range',List.nil_append] at hl
 have hl:l15_1 (puN (k + 2)) L L 0 0 ⟨l.length,f,vL l⟩ (Int.ofNat l.length) (Int.ofNat 0) (Int.ofNat n) ⟨l.length,f,vL l⟩ (Int.ofNat n) (Int.ofNat (bitsOf l)) [] = _:=hl
 rw [hl,ieq_nat,bits_zero h]
 unfold gapsV
 cases Nat.beq l.length 0 <;> rfl
theorem step_loop (k : Nat) {n : Nat} {l : List Nat} (h : Good n l) (f : Nat) (ih0 : Nat → Nat → Int → Int → Sl → List Value → Option Value) {i m : Nat} (hi : l[i]? = some m) (c : Nat) (q : List Nat) (hq : q.length ≤ 100) (hc : c / 2 = q.length) (hc2 : c % 2 = 0) : ∀ (j w d : Nat), j < w → d + j = gapAt n l i → 0 < d →
 l16_5 (puN (k + 1)) L ih0 w q.length c (Int.ofNat i) (Int.ofNat d) (Int.ofNat n) ⟨l.length,f,vL l⟩ (vL q) = ih0 (q.length + 1) (2 * (q.length + 1) + bb false 1 0) (Int.ofNat (i + 1)) (Int.ofNat n) ⟨l.length,f,vL l⟩ (vL (q ++ [gapAt n l i]))
 | j,0,_,hw,_,_=>by omega
 | j, w + 1, d, hw, hd, hd0 => by
  show b16_5 (puN (k + 1)) L ih0 (l16_5 (puN (k + 1)) L ih0 w) q.length c (Int.ofNat i) (Int.ofNat d) (Int.ofNat n) ⟨l.length,f,vL l⟩ (vL q) = _
  obtain ⟨g1,g2,g3,g4⟩:=gap_spec h hi
  have hn:=h.le
  have hfew:=h.few
  have hn0:=h.pos
  have hil:i < l.length:=(List.getElem?_eq_some_iff.1 hi).1
  have hmn:=h.lt m (List.mem_of_getElem? hi)
  have c1:nthL (vL l) (i * 1) = some (IV (Int.ofNat m)):=by
   rw [nthL_eq,Nat.mul_one];unfold vL
   rw [List.getElem?_map,hi];rfl
  have hlt:Nat.blt i l.length = true:=by rw [blt_eq];simp;omega
  have e1:wrapF .i64 (Int.add (Int.ofNat m) (Int.ofNat d)) = ((m + d:Nat):Int):=by
   show wrapF .i64 ((m:Int) + (d:Int)) = _
   rw [wrapI _ (by omega) (by omega)];omega
  unfold b16_5
  rw [show toN (Int.ofNat i) = some i from rfl,oo_some]
  show bb (an (Nat.blt i l.length) true) (oo (nthL (vL l) (i * 1)) none _) none = _
  rw [hlt,show an true true = true from rfl,bb_true,c1,oo_some,show ∀ z,toI .i64 (IV z) = some z from fun _=>rfl,oo_some,e1]
  show oo (puN (k + 1) 64 [IV ((m + d:Nat):Int),IV (Int.ofNat n)]) none _ = _
  rw [pu_rest k hn0 (by omega),plc_nat,oo_some]
  show oo (puN (k + 1) 63 [seaF n f l,IV (Int.ofNat ((m + d) % n))]) none _ = _
  rw [pu_marked k n f _ (by omega),oo_some]
  show bb (allL closed1 (vL q)) (bb (nt (decide ((m + d) % n ∈ l))) (l16_5 (puN (k + 1)) L ih0 w q.length c (Int.ofNat i) (wrapF .i64 (Int.add (Int.ofNat d) (1:Int))) (Int.ofNat n) ⟨l.length,f,vL l⟩ (vL q)) (m16_4 (puN (k + 1)) L ih0 q.length c (Int.ofNat i) (Int.ofNat d) (Int.ofNat n) ⟨l.length,f,vL l⟩ (vL q))) none = _
  rw [vL_closed,bb_true]
  cases j with
  | zero =>
   have hde:d = gapAt n l i:=by omega
   rw [←hde] at g3
   rw [decide_eq_true g3,show nt true = false from rfl,bb_false]
   unfold m16_4 m16_3
   rw [grow_vL (by omega) hc hc2,bb_true,vL_snoc,vL_closed,bb_true,bb_true,wrapS i (by omega),←hde]
  | succ j =>
   rw [decide_eq_false (g4 d hd0 (by omega)),show nt false = true from rfl,bb_true,wrapS d (by omega)]
   exact step_loop k h f ih0 hi c q hq hc hc2 j w (d + 1) (by omega) (by omega) (by omega)
theorem gaps16_loop (k : Nat) {n : Nat} {l : List Nat} (h : Good n l) (f : Nat) : ∀ (j w i c : Nat) (q : List Nat), j < w → i + j = l.length → q.length = i → c / 2 = q.length → c % 2 = 0 →
 l16_2 (puN (k + 1)) L w q.length c (Int.ofNat i) (Int.ofNat n) ⟨l.length,f,vL l⟩ (vL q) = some (tup2 (slv (q ++ (List.range' i j).map (gapAt n l))) (IV 0))
 | j,0,_,_,_,hw,_,_,_,_=>by omega
 | 0, w + 1, i, c, q, _, hk, _, _, _ => by
  show b16_2 (puN (k + 1)) L (l16_2 (puN (k + 1)) L w) q.length c (Int.ofNat i) (Int.ofNat n) ⟨l.length,f,vL l⟩ (vL q) = _
  unfold b16_2
  rw [vL_closed,bb_true]
  show bb (ilt (Int.ofNat i) (Int.ofNat l.length)) _ (m16_1 (puN (k + 1)) L q.length c (vL q)) = _
  rw [ilt_nat,show Nat.blt i l.length = false from by rw [blt_eq];simp;omega,bb_false]
  unfold m16_1
  have e1:takeL (q.length * 1) (dropL 0 (vL q)) = vL q:=by
   rw [takeL_eq,dropL_eq,List.drop_zero,Nat.mul_one,←vL_len q,List.take_length]
  rw [e1,vL_closed,bb_true,len_eq,vL_len,show Nat.ble (0 + q.length * 1) q.length = true from Nat.ble_eq_true_of_le (by omega)]
  show _ = some (tup2 (slv (q ++ [])) (IV 0))
  rw [List.append_nil];rfl
 | j + 1, w + 1, i, c, q, hw, hk, hq, hc, hc2 => by
  show b16_2 (puN (k + 1)) L (l16_2 (puN (k + 1)) L w) q.length c (Int.ofNat i) (Int.ofNat n) ⟨l.length,f,vL l⟩ (vL q) = _
  have hfew:=h.few
  have hn:=h.le
  have hil:i < l.length:=by omega
  obtain ⟨m,hm⟩:∃ m,l[i]? = some m:=⟨l[i],by simp [hil]⟩
  obtain ⟨g1,g2,_,_⟩:=gap_spec h hm
  have ih:=gaps16_loop k h f j w (i + 1) (2 * (q.length + 1) + bb false 1 0) (q ++ [gapAt n l i]) (by omega) (by omega) (by simp;omega) (by simp) (by simp)
  rw [List.length_append,show [gapAt n l i].length = 1 from rfl] at ih
  unfold b16_2
  rw [vL_closed,bb_true]
  show bb (ilt (Int.ofNat i) (Int.ofNat l.length)) (l16_5 (puN (k + 1)) L (l16_2 (puN (k + 1)) L w) L q.length c (Int.ofNat i) (Int.ofNat 1) (Int.ofNat n) ⟨l.length,f,vL l⟩ (vL q)) _ = _
  rw [ilt_nat,show Nat.blt i l.length = true from by rw [blt_eq];simp;omega,bb_true,step_loop k h f (l16_2 (puN (k + 1)) L w) hm c q (by omega) hc hc2 (gapAt n l i - 1) L 1 (by show _ < 1000000;omega) (by omega) (by omega),ih,List.append_assoc,List.range'_succ];rfl
theorem p16 (k:Nat) (args:List Value):puN (k + 1) 16 args = m16 (puN k) L args:=by kernel_rfl
theorem pu_gaps16 (k f:Nat) {n:Nat} {l:List Nat} (h:Good n l):puN (k + 3) 16 [seaF n f l] = some (gapsV n l):=by
 have hn:=h.le
 have hfew:=h.few
 rw [p16]
 show oo (puN (k + 2) 26 [seaF n f l]) none _ = _
 rw [pu_check26_ok k f h,oo_some]
 have hl:=gaps16_loop (k + 1) h f l.length L 0 0 [] (by show _ < 1000000;omega) (by omega) rfl rfl rfl
 rw [show k + 1 + 1 = k + 2 from rfl,←List.range_eq_range',List.nil_append] at hl
 have hl:l16_2 (puN (k + 2)) L L 0 0 (Int.ofNat 0) (Int.ofNat n) ⟨l.length,f,vL l⟩ [] = _:=hl
 have h0:∀ e:Int,ieq e 0 = true→m16_0 (puN (k + 2)) L e (Int.ofNat n) ⟨l.length,f,vL l⟩ = some (tup2 (slv ((List.range l.length).map (gapAt n l))) (IV 0)):=fun e he=>by
  show bb (nt (ieq e 0)) _ (l16_2 (puN (k + 2)) L L 0 0 (Int.ofNat 0) (Int.ofNat n) ⟨l.length,f,vL l⟩ []) = _
  rw [he,hl];rfl
 show m16_6 (puN (k + 2)) L 0 (ieq (Int.ofNat l.length) (Int.ofNat 0)) (Int.ofNat n) ⟨l.length,f,vL l⟩ = _
 rw [ieq_nat]
 unfold m16_6 gapsV
 cases Nat.beq l.length 0 with
 | true=>rfl
 | false=>rw [bb_false];exact h0 0 rfl
end Go.RgP
set_option maxRecDepth 100000
set_option maxHeartbeats 4000000
namespace Go.RgP
open Go Go.Sp Go.RgEM
theorem same_loop (pu : PureF) (L : Nat) {a b : List Int} (hab : a.length = b.length) (ha : a.length < 900000) (f1 f2 : Nat) : ∀ (r r' : List Int) (w i : Nat), a.drop i = r → b.drop i = r' → r.length < w → i ≤ a.length →
 l23_1 pu L w ⟨a.length,f1,iLI a⟩ ⟨b.length,f2,iLI b⟩ (Int.ofNat i) = some (.bool (decide (r = r')))
 | _,_,0,_,_,_,h,_=>by omega
 | [], r', w + 1, i, hd, hd', _, hi => by
  show b23_1 pu L (l23_1 pu L w) ⟨a.length,f1,iLI a⟩ ⟨b.length,f2,iLI b⟩ (Int.ofNat i) = _
  have h1:a.length≤i:=List.drop_eq_nil_iff.1 hd
  have h2:r' = []:=by rw [←hd'];exact List.drop_eq_nil_iff.2 (by omega)
  subst h2
  unfold b23_1
  show bb (ilt (Int.ofNat i) (Int.ofNat a.length)) _ _ = _
  rw [ilt_nat,show Nat.blt i a.length = false from by rw [blt_eq];simp;omega];simp;rfl
 | x :: r, r', w + 1, i, hd, hd', hw, hi => by
  show b23_1 pu L (l23_1 pu L w) ⟨a.length,f1,iLI a⟩ ⟨b.length,f2,iLI b⟩ (Int.ofNat i) = _
  obtain ⟨hd2,hi2,_⟩:=dropI_next hd
  cases r' with
  | nil =>
   have h1:b.length≤i:=List.drop_eq_nil_iff.1 hd'
   omega
  | cons y r' =>
   obtain ⟨hd3,_,_⟩:=dropI_next hd'
   have hr:(x :: r).length = r.length + 1:=rfl
   have hlt:Nat.blt i a.length = true:=by rw [blt_eq];simp;omega
   have hlt2:Nat.blt i b.length = true:=by rw [blt_eq];simp;omega
   have ih:=same_loop pu L hab ha f1 f2 r r' w (i + 1) hd2 hd3 (by omega) (by omega)
   unfold b23_1
   show bb (ilt (Int.ofNat i) (Int.ofNat a.length)) (oo (toN (Int.ofNat i)) none fun k=>bb (an (Nat.blt k a.length) true) (oo (nthL (iLI a) (k * 1)) none fun v=>oo (toI .i64 v) none fun x1=>bb (an (Nat.blt k b.length) true) (oo (nthL (iLI b) (k * 1)) none fun v=>oo (toI .i64 v) none fun x2=>bb (nt (ieq x1 x2)) (some (.bool false)) (l23_1 pu L w ⟨a.length,f1,iLI a⟩ ⟨b.length,f2,iLI b⟩ (wrapF .i64 (Int.add (Int.ofNat k) (1:Int))))) none) none) (m23_0 pu L) = _
   rw [ilt_nat, hlt, bb_true, show toN (Int.ofNat i) = some i from rfl, oo_some, hlt, show an true true = true from rfl, bb_true, iLI_get hd, oo_some, show ∀ z, toI .i64 (IV z) = some z from fun _ => rfl, oo_some, hlt2, show an true true = true from rfl, bb_true, iLI_get hd', oo_some,
    show ∀ z,toI .i64 (IV z) = some z from fun _=>rfl,oo_some,wrapS i (by omega),ih,ieq_eq]
   by_cases h:x = y
   ·subst h;simp
   ·have hxy : (x == y) = false := by simpa using h
    have hc:¬ (x :: r = y :: r'):=fun e=>h (by injection e)
    rw [hxy,decide_eq_false hc];rfl
theorem p23 (k:Nat) (args:List Value):puN (k + 1) 23 args = m23 (puN k) L args:=by kernel_rfl
theorem pu_same (k f1 f2:Nat) {a b:List Int} (ha:a.length < 900000):puN (k + 1) 23 [slI f1 a,slI f2 b] = some (.bool (decide (a = b))):=by
 rw [p23]
 show bb (nt (ieq (Int.ofNat a.length) (Int.ofNat b.length))) (some (.bool false)) (l23_1 (puN k) L L ⟨a.length,f1,iLI a⟩ ⟨b.length,f2,iLI b⟩ (0:Int)) = _
 rw [ieq_nat,beq_dec]
 by_cases h:a.length = b.length
 ·rw [decide_eq_true h, show nt true = false from rfl, bb_false]
  exact same_loop (puN k) L h ha f1 f2 a b L 0 (List.drop_zero) (List.drop_zero) (by show _ < 1000000;omega) (by omega)
 ·have : ¬ a = b := fun e => h (by rw [e])
  rw [decide_eq_false h,decide_eq_false this];rfl
end Go.RgP
set_option maxRecDepth 100000
set_option maxHeartbeats 4000000
namespace Go.RgP
open Go Go.Sp Go.RgEM
noncomputable def seaI (n:Int) (l:List Int):Value:=.agg ⟨[IV n,slI 0 l]⟩
noncomputable def noSea:Value:=.agg ⟨[IV 0,nilQ]⟩
noncomputable def tup3 (a b c:Value):Value:=.tuple ⟨[a,b,c]⟩
theorem sea_seaI (n:Nat) (l:List Nat):seaF n 0 l = seaI (Int.ofNat n) (l.map Int.ofNat):=by unfold seaF seaI slI;rw [vL_iLI,List.length_map]
theorem chk_ne {n:Int} {l:List Int} (h:checkI n l ≠ 0):ieq (checkI n l) 0 = false:=by rw [ieq_eq];simpa using h
theorem p17 (k:Nat) (args:List Value):puN (k + 1) 17 args = m17 (puN k) L args:=by kernel_rfl
theorem p18 (k:Nat) (args:List Value):puN (k + 1) 18 args = m18 (puN k) L args:=by kernel_rfl
theorem p19 (k:Nat) (args:List Value):puN (k + 1) 19 args = m19 (puN k) L args:=by kernel_rfl
theorem p20 (k:Nat) (args:List Value):puN (k + 1) 20 args = m20 (puN k) L args:=by kernel_rfl
theorem p21 (k:Nat) (args:List Value):puN (k + 1) 21 args = m21 (puN k) L args:=by kernel_rfl
theorem p22 (k:Nat) (args:List Value):puN (k + 1) 22 args = m22 (puN k) L args:=by kernel_rfl
theorem pu_turn17 (k f:Nat) {n:Nat} {l:List Nat} (h:Good n l) (b:Int):puN (k + 4) 17 [seaF n f l,IV b] = some (tup2 (seaF n 0 (marksN n (turnN n (bitsOf l) (plc n b)))) (IV 0)):=by
 have hn:=h.le
 rw [p17]
 show oo (puN (k + 3) 61 [seaF n f l]) none _ = _
 rw [show puN (k + 3) 61 [seaF n f l] = _ from pu_opened (k + 1) f h.pos h.le h.few h.up h.lt,oo_some]
 show oo (puN (k + 3) 62 [tv n (bitsOf l),IV b]) none _ = _
 rw [pu_on2 (k + 2) h.pos (by omega),oo_some]
 show oo (puN (k + 3) 65 [tv n (bitsOf l),IV (Int.ofNat (plc n b))]) none _ = _
 rw [pu_turned (k + 2) hn (bitsOf_lt h.lt) (plc_lt h.pos b),oo_some]
 show oo (puN (k + 3) 66 [tv n (turnN n (bitsOf l) (plc n b))]) none _ = _
 rw [pu_seal k (by omega),oo_some];rfl
theorem pu_turn18 (k f:Nat) {n:Nat} {l:List Nat} (h:Good n l) (b:Int):puN (k + 3) 18 [seaF n f l,IV b] = some (tup2 (seaF n 0 (marksN n (turnN n (bitsOf l) (plc n b)))) (IV 0)):=by
 have hn:=h.le
 rw [p18]
 show oo (puN (k + 2) 26 [seaF n f l]) none _ = _
 rw [pu_check26_ok k f h,oo_some]
 show oo (puN (k + 2) 64 [IV b,IV (Int.ofNat n)]) none _ = _
 rw [pu_rest (k + 1) h.pos (by omega),oo_some]
 show oo (puN (k + 2) 67 [seaF n f l,IV 1,IV (Int.ofNat (plc n b))]) none _ = _
 rw [pu_turnR k f h (plc_lt h.pos b),oo_some];rfl
theorem pu_first19 (k f:Nat) {n:Nat} {l:List Nat} (h:Good n l):puN (k + 5) 19 [seaF n f l] = some (tup2 (seaF n 0 (minT n (bitsOf l))) (IV 0)):=by
 have hn:=h.le
 have hm:=first_min h.pos hn (bitsOf_lt h.lt)
 rw [p19]
 show oo (puN (k + 4) 61 [seaF n f l]) none _ = _
 rw [show puN (k + 4) 61 [seaF n f l] = _ from pu_opened (k + 2) f h.pos h.le h.few h.up h.lt,oo_some]
 show oo (puN (k + 4) 68 [tv n (bitsOf l)]) none _ = _
 rw [pu_first k h.pos hn (bitsOf_lt h.lt),oo_some]
 show oo (puN (k + 4) 66 [tv n (firstN n (bitsOf l))]) none _ = _
 rw [pu_seal (k + 1) (by omega),hm.1,oo_some];rfl
theorem pu_first20 (k f:Nat) {n:Nat} {l:List Nat} (h:Good n l):puN (k + 4) 20 [seaF n f l] = some (tup2 (seaF n 0 (minT n (bitsOf l))) (IV 0)):=by
 have hn:=h.le
 rw [p20]
 show oo (puN (k + 3) 26 [seaF n f l]) none _ = _
 rw [pu_check26_ok (k + 1) f h,oo_some]
 show oo (puN (k + 3) 69 [seaF n f l]) none _ = _
 rw [pu_firstR k f h,oo_some];rfl
noncomputable def alikeV (n s o:Nat):Value:=oo (reachN n s o) (oo (reachN n (timesN n s (-1)) o) (tup3 (IV 0) (.bool false) (IV 12)) fun b=>tup3 (IV (Int.ofNat b)) (.bool true) (IV 0)) fun b=>tup3 (IV (Int.ofNat b)) (.bool false) (IV 0)
noncomputable def alike2 (n:Nat) (l:List Nat) (n':Nat) (l':List Nat):Value:=bif Nat.beq n n' && Nat.beq l.length l'.length then alikeV n (bitsOf l) (bitsOf l') else tup3 (IV 0) (.bool false) (IV 5)
theorem reach_some (o:Option Nat):reachV o = oo o (tup2 (IV 0) (.bool false)) fun b=>tup2 (IV (Int.ofNat b)) (.bool true):=by cases o <;> rfl
theorem alike_core (k:Nat) {n s o:Nat} (hn0:0 < n) (hn:n≤21) (hs:s < 2 ^ n):m21_0 (puN (k + 3)) L false (Int.ofNat n) (Int.ofNat s) (Int.ofNat n) (Int.ofNat o) = some (alikeV n s o):=by
 unfold m21_0 alikeV
 rw [bb_false]
 show oo (puN (k + 3) 70 [tv n s,tv n o]) none _ = _
 rw [pu_reaches (k + 1) hn hs,reach_some,oo_some]
 cases h1:reachN n s o with
 | some b=>rfl
 | none =>
  show oo (puN (k + 3) 71 [tv n s,IV (-1)]) none _ = _
  rw [pu_times k hn0 hn hs (by omega) (by omega),oo_some]
  show oo (puN (k + 3) 70 [tv n (timesN n s (-1)),tv n o]) none _ = _
  rw [pu_reaches (k + 1) hn (timesN_lt hn0),reach_some,oo_some]
  cases reachN n (timesN n s (-1)) o <;> rfl
theorem pu_alike21 (k f f2:Nat) {n n':Nat} {l l':List Nat} (h:Good n l) (h':Good n' l'):puN (k + 4) 21 [seaF n f l,seaF n' f2 l'] = some (alike2 n l n' l'):=by
 rw [p21]
 show oo (puN (k + 3) 61 [seaF n f l]) none _ = _
 rw [show puN (k + 3) 61 [seaF n f l] = _ from pu_opened (k + 1) f h.pos h.le h.few h.up h.lt,oo_some]
 show oo (puN (k + 3) 61 [seaF n' f2 l']) none _ = _
 rw [show puN (k + 3) 61 [seaF n' f2 l'] = _ from pu_opened (k + 1) f2 h'.pos h'.le h'.few h'.up h'.lt,oo_some]
 show bb (nt (ieq (Int.ofNat n) (Int.ofNat n'))) (m21_0 (puN (k + 3)) L true (Int.ofNat n) (Int.ofNat (bitsOf l)) (Int.ofNat n') (Int.ofNat (bitsOf l'))) (m21_0 (puN (k + 3)) L (nt (ieq (Int.ofNat l.length) (Int.ofNat l'.length))) (Int.ofNat n) (Int.ofNat (bitsOf l)) (Int.ofNat n') (Int.ofNat (bitsOf l'))) = _
 rw [ieq_nat,ieq_nat]
 unfold alike2
 cases hc:Nat.beq n n' with
 | false=>rfl
 | true =>
  obtain rfl:=Nat.eq_of_beq_eq_true hc
  cases Nat.beq l.length l'.length with
  | false=>rfl
  | true=>exact alike_core k h.pos h.le (bitsOf_lt h.lt)
theorem marks_iff {n t:Nat} {l:List Nat} (h:Good n l) (ht:t < 2 ^ n):decide (marksN n t = l) = Nat.beq t (bitsOf l):=by
 have hn:=h.le
 rw [beq_dec]
 refine decide_eq_decide.2 ⟨fun e=>?_,fun e=>?_⟩
 ·rw [←e,bitsOf_marks (by omega) ht]
 ·rw [e];exact h.marks
theorem over_loop (k f f2 : Nat) {n : Nat} {l l' : List Nat} (h : Good n l) (h' : Good n l') (z : Int) : ∀ (j w b : Nat), j < w → b + j = n →
 l22_4 (puN (k + 2)) L w (Int.ofNat b) (Int.ofNat n) ⟨l.length,f,vL l⟩ z ⟨l'.length,f2,vL l'⟩ = some (oo ((List.range' b j).find? fun b=>Nat.beq (turnN n (timesN n (bitsOf l) (-1)) b) (bitsOf l')) (tup3 (IV 0) (.bool false) (IV 12)) fun b=>tup3 (IV (Int.ofNat b)) (.bool true) (IV 0))
 | j,0,_,hw,_=>by omega
 | 0, w + 1, b, _, hb => by
  show b22_4 (puN (k + 2)) L (l22_4 (puN (k + 2)) L w) (Int.ofNat b) (Int.ofNat n) ⟨l.length,f,vL l⟩ z ⟨l'.length,f2,vL l'⟩ = _
  unfold b22_4
  rw [ilt_nat,show Nat.blt b n = false from by rw [blt_eq];simp;omega];rfl
 | j + 1, w + 1, b, hw, hb => by
  show b22_4 (puN (k + 2)) L (l22_4 (puN (k + 2)) L w) (Int.ofNat b) (Int.ofNat n) ⟨l.length,f,vL l⟩ z ⟨l'.length,f2,vL l'⟩ = _
  have hn:=h.le
  have hfew:=h'.few
  have ih:=over_loop k f f2 h h' z j w (b + 1) (by omega) (by omega)
  have hmv:=pu_movedR k f h (m:=-1) (b:=(b:Int)) (by omega) (by omega) (by omega) (by omega) (injM h _)
  have e:=moved_turn h.pos (show n≤31 by omega) l (-1) (b:Int)
  rw [plc_nat,Nat.mod_eq_of_lt (by omega)] at e
  have et:setOf (fun p=>plc n ((p:Int) * (-1))) l 0 = timesN n (bitsOf l) (-1):=by unfold timesN;rw [h.marks]
  rw [e,et] at hmv
  have hlen:=marks_len (n:=n) (s:=turnN n (timesN n (bitsOf l) (-1)) b)
  unfold b22_4
  rw [ilt_nat,show Nat.blt b n = true from by rw [blt_eq];simp;omega,bb_true]
  show oo (puN (k + 2) 67 [seaF n f l,IV (-1),IV (b:Int)]) none _ = _
  rw [hmv,oo_some]
  show oo (puN (k + 2) 72 [Sl.v 1 ⟨(marksN n (turnN n (timesN n (bitsOf l) (-1)) b)).length,0,vL (marksN n (turnN n (timesN n (bitsOf l) (-1)) b))⟩,Sl.v 1 ⟨l'.length,f2,vL l'⟩]) none _ = _
  rw [pu_same72 k 0 f2 (by omega) (by omega),marks_iff h' turn_lt,oo_some]
  show bb (Nat.beq (turnN n (timesN n (bitsOf l) (-1)) b) (bitsOf l')) (some (tup3 (IV (Int.ofNat b)) (.bool true) (IV 0))) (l22_4 (puN (k + 2)) L w (wrapF .i64 (Int.add (Int.ofNat b) (1:Int))) (Int.ofNat n) ⟨l.length,f,vL l⟩ z ⟨l'.length,f2,vL l'⟩) = _
  rw [wrapS b (by omega),ih,List.range'_succ]
  cases hc:Nat.beq (turnN n (timesN n (bitsOf l) (-1)) b) (bitsOf l') with
  | true=>rw [List.find?_cons_of_pos (p:=fun b=>Nat.beq (turnN n (timesN n (bitsOf l) (-1)) b) (bitsOf l')) hc];rfl
  | false=>rw [List.find?_cons_of_neg (p:=fun b=>Nat.beq (turnN n (timesN n (bitsOf l) (-1)) b) (bitsOf l')) (by rw [hc];simp)];rfl
theorem on_loop (k f f2 : Nat) {n : Nat} {l l' : List Nat} (h : Good n l) (h' : Good n l') (z : Int) : ∀ (j w b : Nat), j < w → b + j = n →
 l22_5 (puN (k + 2)) L w (Int.ofNat b) (Int.ofNat n) ⟨l.length,f,vL l⟩ z ⟨l'.length,f2,vL l'⟩ = some (oo ((List.range' b j).find? fun b=>Nat.beq (turnN n (bitsOf l) b) (bitsOf l')) (oo (reachN n (timesN n (bitsOf l) (-1)) (bitsOf l')) (tup3 (IV 0) (.bool false) (IV 12)) fun b=>tup3 (IV (Int.ofNat b)) (.bool true) (IV 0)) fun b=>tup3 (IV (Int.ofNat b)) (.bool false) (IV 0))
 | j,0,_,hw,_=>by omega
 | 0, w + 1, b, _, hb => by
  show b22_5 (puN (k + 2)) L (l22_5 (puN (k + 2)) L w) (Int.ofNat b) (Int.ofNat n) ⟨l.length,f,vL l⟩ z ⟨l'.length,f2,vL l'⟩ = _
  have hn:=h.le
  unfold b22_5
  rw [ilt_nat,show Nat.blt b n = false from by rw [blt_eq];simp;omega,bb_false]
  have ho:=over_loop k f f2 h h' z n L 0 (by show n < 1000000;omega) (by omega)
  rw [←List.range_eq_range'] at ho
  exact ho
 | j + 1, w + 1, b, hw, hb => by
  show b22_5 (puN (k + 2)) L (l22_5 (puN (k + 2)) L w) (Int.ofNat b) (Int.ofNat n) ⟨l.length,f,vL l⟩ z ⟨l'.length,f2,vL l'⟩ = _
  have hn:=h.le
  have hfew:=h'.few
  have ih:=on_loop k f f2 h h' z j w (b + 1) (by omega) (by omega)
  have hlen:=marks_len (n:=n) (s:=turnN n (bitsOf l) b)
  unfold b22_5
  rw [ilt_nat,show Nat.blt b n = true from by rw [blt_eq];simp;omega,bb_true]
  show oo (puN (k + 2) 67 [seaF n f l,IV 1,IV (Int.ofNat b)]) none _ = _
  rw [pu_turnR k f h (by omega),oo_some]
  show oo (puN (k + 2) 72 [Sl.v 1 ⟨(marksN n (turnN n (bitsOf l) b)).length,0,vL (marksN n (turnN n (bitsOf l) b))⟩,Sl.v 1 ⟨l'.length,f2,vL l'⟩]) none _ = _
  rw [pu_same72 k 0 f2 (by omega) (by omega),marks_iff h' turn_lt,oo_some]
  show bb (Nat.beq (turnN n (bitsOf l) b) (bitsOf l')) (some (tup3 (IV (Int.ofNat b)) (.bool false) (IV 0))) (l22_5 (puN (k + 2)) L w (wrapF .i64 (Int.add (Int.ofNat b) (1:Int))) (Int.ofNat n) ⟨l.length,f,vL l⟩ z ⟨l'.length,f2,vL l'⟩) = _
  rw [wrapS b (by omega),ih,List.range'_succ]
  cases hc:Nat.beq (turnN n (bitsOf l) b) (bitsOf l') with
  | true=>rw [List.find?_cons_of_pos (p:=fun b=>Nat.beq (turnN n (bitsOf l) b) (bitsOf l')) hc];rfl
  | false=>rw [List.find?_cons_of_neg (p:=fun b=>Nat.beq (turnN n (bitsOf l) b) (bitsOf l')) (by rw [hc];simp)];rfl
theorem pu_alike22 (k f f2:Nat) {n n':Nat} {l l':List Nat} (h:Good n l) (h':Good n' l'):puN (k + 3) 22 [seaF n f l,seaF n' f2 l'] = some (alike2 n l n' l'):=by
 have hn:=h.le
 rw [p22]
 show oo (puN (k + 2) 26 [seaF n f l]) none _ = _
 rw [pu_check26_ok k f h,oo_some]
 show oo (puN (k + 2) 26 [seaF n' f2 l']) none _ = _
 rw [pu_check26_ok k f2 h',oo_some]
 show bb (nt (ieq (Int.ofNat n) (Int.ofNat n'))) (some (tup3 (IV 0) (.bool false) (IV 5))) (bb (nt (ieq (Int.ofNat l.length) (Int.ofNat l'.length))) (some (tup3 (IV 0) (.bool false) (IV 5))) (l22_5 (puN (k + 2)) L L (Int.ofNat 0) (Int.ofNat n) ⟨l.length,f,vL l⟩ (Int.ofNat n') ⟨l'.length,f2,vL l'⟩)) = _
 rw [ieq_nat,ieq_nat]
 unfold alike2
 cases hc:Nat.beq n n' with
 | false=>rfl
 | true =>
  obtain rfl:=Nat.eq_of_beq_eq_true hc
  cases Nat.beq l.length l'.length with
  | false=>rfl
  | true =>
   have ho:=on_loop k f f2 h h' (Int.ofNat n) n L 0 (by show n < 1000000;omega) (by omega)
   rw [←List.range_eq_range'] at ho
   exact ho
section
variable (k:Nat) {n:Int} {l:List Int} (hl:l.length < 900000) (h:checkI n l ≠ 0)
include hl h
theorem bad15:puN (k + 3) 15 [seaI n l] = some (tup2 nilQ (IV (checkI n l))):=by
 rw [p15]
 show oo (puN (k + 2) 61 [.agg ⟨[IV n,slI 0 l]⟩]) none _ = _
 rw [pu_opened_bad k 0 hl h,oo_some]
 show bb (nt (ieq (checkI n l) 0)) _ _ = _
 rw [chk_ne h];rfl
theorem bad16:puN (k + 3) 16 [seaI n l] = some (tup2 nilQ (IV (checkI n l))):=by
 rw [p16]
 show oo (puN (k + 2) 26 [.agg ⟨[IV n,slI 0 l]⟩]) none _ = _
 rw [pu_check26 k 0 n hl,oo_some]
 show bb (ieq (checkI n l) 0) _ (m16_6 (puN (k + 2)) L (checkI n l) false n ⟨l.length,0,iLI l⟩) = _
 rw [chk_ne h,bb_false]
 show bb (nt (ieq (checkI n l) 0)) _ _ = _
 rw [chk_ne h];rfl
theorem bad17 (b:Int):puN (k + 3) 17 [seaI n l,IV b] = some (tup2 noSea (IV (checkI n l))):=by
 rw [p17]
 show oo (puN (k + 2) 61 [.agg ⟨[IV n,slI 0 l]⟩]) none _ = _
 rw [pu_opened_bad k 0 hl h,oo_some]
 show bb (nt (ieq (checkI n l) 0)) _ _ = _
 rw [chk_ne h];rfl
theorem bad18 (b:Int):puN (k + 3) 18 [seaI n l,IV b] = some (tup2 noSea (IV (checkI n l))):=by
 rw [p18]
 show oo (puN (k + 2) 26 [.agg ⟨[IV n,slI 0 l]⟩]) none _ = _
 rw [pu_check26 k 0 n hl,oo_some]
 show bb (nt (ieq (checkI n l) 0)) _ _ = _
 rw [chk_ne h];rfl
theorem bad19:puN (k + 3) 19 [seaI n l] = some (tup2 noSea (IV (checkI n l))):=by
 rw [p19]
 show oo (puN (k + 2) 61 [.agg ⟨[IV n,slI 0 l]⟩]) none _ = _
 rw [pu_opened_bad k 0 hl h,oo_some]
 show bb (nt (ieq (checkI n l) 0)) _ _ = _
 rw [chk_ne h];rfl
theorem bad20:puN (k + 3) 20 [seaI n l] = some (tup2 noSea (IV (checkI n l))):=by
 rw [p20]
 show oo (puN (k + 2) 26 [.agg ⟨[IV n,slI 0 l]⟩]) none _ = _
 rw [pu_check26 k 0 n hl,oo_some]
 show bb (nt (ieq (checkI n l) 0)) _ _ = _
 rw [chk_ne h];rfl
theorem bad21 (n':Int) (l':List Int):puN (k + 3) 21 [seaI n l,seaI n' l'] = some (tup3 (IV 0) (.bool false) (IV (checkI n l))):=by
 rw [p21]
 show oo (puN (k + 2) 61 [.agg ⟨[IV n,slI 0 l]⟩]) none _ = _
 rw [pu_opened_bad k 0 hl h,oo_some]
 show bb (nt (ieq (checkI n l) 0)) _ _ = _
 rw [chk_ne h];rfl
theorem bad22 (n':Int) (l':List Int):puN (k + 3) 22 [seaI n l,seaI n' l'] = some (tup3 (IV 0) (.bool false) (IV (checkI n l))):=by
 rw [p22]
 show oo (puN (k + 2) 26 [.agg ⟨[IV n,slI 0 l]⟩]) none _ = _
 rw [pu_check26 k 0 n hl,oo_some]
 show bb (ieq (checkI n l) 0) _ (m22_0 (puN (k + 2)) L (checkI n l) n ⟨l.length,0,iLI l⟩ n' ⟨l'.length,0,iLI l'⟩) = _
 rw [chk_ne h,bb_false]
 show bb (ieq (checkI n l) 0) _ (m22_6 (puN (k + 2)) L (checkI n l) false n ⟨l.length,0,iLI l⟩ n' ⟨l'.length,0,iLI l'⟩) = _
 rw [chk_ne h,bb_false]
 show bb (nt (ieq (checkI n l) 0)) _ _ = _
 rw [chk_ne h];rfl
theorem bad21' {m f:Nat} {q:List Nat} (hg:Good m q):puN (k + 3) 21 [seaF m f q,seaI n l] = some (tup3 (IV 0) (.bool false) (IV (checkI n l))):=by
 rw [p21]
 show oo (puN (k + 2) 61 [seaF m f q]) none _ = _
 rw [show puN (k + 2) 61 [seaF m f q] = _ from pu_opened k f hg.pos hg.le hg.few hg.up hg.lt,oo_some]
 show oo (puN (k + 2) 61 [.agg ⟨[IV n,slI 0 l]⟩]) none _ = _
 rw [pu_opened_bad k 0 hl h,oo_some]
 show bb (nt (ieq (checkI n l) 0)) _ _ = _
 rw [chk_ne h];rfl
theorem bad22' {m f:Nat} {q:List Nat} (hg:Good m q):puN (k + 3) 22 [seaF m f q,seaI n l] = some (tup3 (IV 0) (.bool false) (IV (checkI n l))):=by
 rw [p22]
 show oo (puN (k + 2) 26 [seaF m f q]) none _ = _
 rw [pu_check26_ok k f hg,oo_some]
 show oo (puN (k + 2) 26 [.agg ⟨[IV n,slI 0 l]⟩]) none _ = _
 rw [pu_check26 k 0 n hl,oo_some]
 show bb (ieq (checkI n l) 0) _ (m22_6 (puN (k + 2)) L (checkI n l) false (Int.ofNat m) ⟨q.length,f,vL q⟩ n ⟨l.length,0,iLI l⟩) = _
 rw [chk_ne h,bb_false]
 show bb (nt (ieq (checkI n l) 0)) _ _ = _
 rw [chk_ne h];rfl
end
end Go.RgP
set_option maxRecDepth 100000
set_option maxHeartbeats 4000000
namespace Go.RgP
open Go Go.Sp Go.RgEM
theorem p24 (k:Nat) (args:List Value):puN (k + 1) 24 args = m24 (puN k) L args:=by kernel_rfl
theorem same_self (k f:Nat) {l:List Int} (hl:l.length < 900000):puN (k + 1) 23 [slI f l,slI f l] = some (.bool true):=by
 rw [pu_same k f f hl,decide_eq_true rfl]
theorem equal_self (k f:Nat) (c:Int) {l:List Int} (hl:l.length < 900000):puN (k + 2) 24 [.agg ⟨[IV c,slI f l]⟩,.agg ⟨[IV c,slI f l]⟩] = some (.bool true):=by
 rw [p24]
 show bb (ieq c c) (oo (puN (k + 1) 23 [slI f l,slI f l]) none fun v1702=>(oo (vBool v1702) none fun b1704=>(m24_0 (puN (k + 1)) L b1704))) (m24_0 (puN (k + 1)) L false) = _
 rw [same_self k f hl,show ieq c c = true from by rw [ieq_eq];simp];rfl
theorem seals_tail (pu : PureF) (h14 : pu 14 [] = some (.bool true)) {n n' : Int} {l l' : List Int} {by' : Int} {G C D : List Int} {g c' d' : Nat} {c d x : Int} {b : Bool} (e1 e2 e3 e4 e5 : Int)
 (h15:pu 15 [seaI n l] = some (tup2 (slI g G) (IV e1))) (h16:pu 16 [seaI n l] = some (tup2 (slI g G) (IV e1)))
 (h17:pu 17 [seaI n l,IV by'] = some (tup2 (.agg ⟨[IV c,slI c' C]⟩) (IV e2))) (h18:pu 18 [seaI n l,IV by'] = some (tup2 (.agg ⟨[IV c,slI c' C]⟩) (IV e2)))
 (h19:pu 19 [seaI n l] = some (tup2 (.agg ⟨[IV d,slI d' D]⟩) (IV e3))) (h20:pu 20 [seaI n l] = some (tup2 (.agg ⟨[IV d,slI d' D]⟩) (IV e3)))
 (h21:pu 21 [seaI n l,seaI n' l'] = some (tup3 (IV x) (.bool b) (IV e4))) (h22:pu 22 [seaI n l,seaI n' l'] = some (tup3 (IV x) (.bool b) (IV e4)))
 (h25:pu 25 [seaI n l] = some (IV e5)) (h26:pu 26 [seaI n l] = some (IV e5))
 (hG:pu 23 [slI g G,slI g G] = some (.bool true)) (hC:pu 24 [.agg ⟨[IV c,slI c' C]⟩,.agg ⟨[IV c,slI c' C]⟩] = some (.bool true)) (hD:pu 24 [.agg ⟨[IV d,slI d' D]⟩,.agg ⟨[IV d,slI d' D]⟩] = some (.bool true)) :
 m3_0 pu L by' false n ⟨l.length,0,iLI l⟩ n' ⟨l'.length,0,iLI l'⟩ = some (.bool true):=by
 have er:∀ z:Int,ieq z z = true:=fun z=>by rw [ieq_eq];simp
 unfold m3_0
 rw [bb_false]
 show oo (pu 15 [seaI n l]) none _ = _
 rw [h15,oo_some]
 show oo (pu 16 [seaI n l]) none _ = _
 rw [h16,oo_some]
 show oo (pu 17 [seaI n l,IV by']) none _ = _
 rw [h17,oo_some]
 show oo (pu 18 [seaI n l,IV by']) none _ = _
 rw [h18,oo_some]
 show oo (pu 19 [seaI n l]) none _ = _
 rw [h19,oo_some]
 show oo (pu 20 [seaI n l]) none _ = _
 rw [h20,oo_some]
 show oo (pu 21 [seaI n l,seaI n' l']) none _ = _
 rw [h21,oo_some]
 show oo (pu 22 [seaI n l,seaI n' l']) none _ = _
 rw [h22,oo_some]
 show oo (pu 23 [slI g G,slI g G]) none _ = _
 rw [hG,oo_some]
 show bb true (bb (ieq e1 e1) (oo (pu 24 [.agg ⟨[IV c,slI c' C]⟩,.agg ⟨[IV c,slI c' C]⟩]) none fun v1576=>(oo (vBool v1576) none fun b1578=>(bb b1578 (bb (ieq e2 e2) (oo (pu 24 [.agg ⟨[IV d,slI d' D]⟩,.agg ⟨[IV d,slI d' D]⟩]) none fun v1582=>(oo (vBool v1582) none fun b1584=>(bb b1584 (bb (ieq e3 e3) (bb (ieq x x) (bb (bq true (bq b b)) (bb (ieq e4 e4) (oo (pu 25 [seaI n l]) none fun v1591=>(oo (toI .i64 v1591) none fun x1593=>(oo (pu 26 [seaI n l]) none fun v1595=>(oo (toI .i64 v1595) none fun x1597=>(bb (ieq x1593 x1597) (oo (pu 14 []) none fun v1600=>(oo (vBool v1600) none fun b1602=>(m3_1 pu L b1602))) (m3_1 pu L false)))))) (m3_1 pu L false)) (m3_1 pu L false)) (m3_1 pu L false)) (m3_1 pu L false)) (m3_1 pu L false)))) (m3_1 pu L false)) (m3_1 pu L false)))) (m3_1 pu L false)) (m3_1 pu L false) = _
 rw [er,er,er,er,er,hC,hD,h25,h26,h14,show bq true (bq b b) = true from by cases b <;> rfl]
 show bb (ieq e5 e5) (some (.bool true)) (m3_1 pu L false) = _
 rw [er];rfl
theorem alike_shape (n n':Nat) (l l':List Nat):∃ (x:Int) (b:Bool) (e:Int),alike2 n l n' l' = tup3 (IV x) (.bool b) (IV e):=by
 unfold alike2 alikeV
 cases Nat.beq n n' && Nat.beq l.length l'.length with
 | false=>exact ⟨_,_,_,rfl⟩
 | true =>
  cases reachN n (bitsOf l) (bitsOf l') with
  | some b=>exact ⟨_,_,_,rfl⟩
  | none=>cases reachN n (timesN n (bitsOf l) (-1)) (bitsOf l') <;> exact ⟨_,_,_,rfl⟩
theorem gaps_shape (n:Nat) (l:List Nat):∃ (g:Nat) (G:List Int) (e:Int),G.length≤l.length∧gapsV n l = tup2 (slI g G) (IV e):=by
 unfold gapsV
 cases Nat.beq l.length 0 with
 | true=>exact ⟨2,[],4,by simp,rfl⟩
 | false=>exact ⟨0,((List.range l.length).map (gapAt n l)).map Int.ofNat,0,by simp,by rw [←slv_slI];rfl⟩
theorem min_len {n s:Nat} (hn:0 < n):(minT n s).length≤n:=by
 obtain ⟨b,_,h⟩:=(minT_least (s:=s) hn).1
 rw [h];exact marks_len
theorem seaF_ints (n:Nat) (l:List Nat):seaF n 0 l = .agg ⟨[IV (Int.ofNat n),slI 0 (l.map Int.ofNat)]⟩:=sea_seaI n l
theorem seals_law (pu : PureF) (hpu : ∀ g, Nat.beq g 14 = false → pu g = puN 10 g) (h14 : pu 14 [] = some (.bool true)) (n : Int) (l : List Int) (n' : Int) (l' : List Int) (by' : Int) :
 m3 pu L [.agg ⟨[IV n,slI 0 l]⟩,.agg ⟨[IV n',slI 0 l']⟩,IV by'] = some (.bool true):=by
 show m3_ pu L n ⟨l.length,0,iLI l⟩ n' ⟨l'.length,0,iLI l'⟩ by' = _
 have hw:m3_0 pu L by' true n ⟨l.length,0,iLI l⟩ n' ⟨l'.length,0,iLI l'⟩ = some (.bool true):=by
  unfold m3_0
  rw [bb_true,h14];rfl
 show bb (ilt (Int.ofNat 40) (Int.ofNat l.length)) (m3_0 pu L by' true n ⟨l.length,0,iLI l⟩ n' ⟨l'.length,0,iLI l'⟩) (m3_0 pu L by' (ilt (Int.ofNat 40) (Int.ofNat l'.length)) n ⟨l.length,0,iLI l⟩ n' ⟨l'.length,0,iLI l'⟩) = _
 rw [ilt_nat,ilt_nat,blt_eq,blt_eq]
 by_cases h1:40 < l.length
 ·rw [decide_eq_true h1,bb_true,hw]
 ·rw [decide_eq_false h1, bb_false]
  by_cases h2:40 < l'.length
  ·rw [decide_eq_true h2,hw]
  ·rw [decide_eq_false h2]
   have hl:l.length < 900000:=by omega
   have hl':l'.length < 900000:=by omega
   have h25:pu 25 [seaI n l] = some (IV (checkI n l)):=by rw [hpu 25 rfl];exact pu_check 9 0 n hl
   have h26:pu 26 [seaI n l] = some (IV (checkI n l)):=by rw [hpu 26 rfl];exact pu_check26 8 0 n hl
   by_cases hc:checkI n l = 0
   ·have hcn := hc
    obtain ⟨m,q,rfl,rfl,a1,a2,a3,a4,a5⟩:=checkI_inv hc
    have hg:Good m q:=⟨a1,a2,a3,a4,a5⟩
    obtain ⟨g,G,eg,hGl,hG⟩:=gaps_shape m q
    have hml:=min_len (s:=bitsOf q) a1
    have hmk:=marks_len (n:=m) (s:=turnN m (bitsOf q) (plc m by'))
    have h15:pu 15 [seaI (Int.ofNat m) (q.map Int.ofNat)] = some (tup2 (slI g G) (IV eg)):=by rw [←sea_seaI,hpu 15 rfl,show (10:Nat) = 7 + 3 from rfl,pu_gaps 7 0 hg,hG]
    have h16:pu 16 [seaI (Int.ofNat m) (q.map Int.ofNat)] = some (tup2 (slI g G) (IV eg)):=by rw [←sea_seaI,hpu 16 rfl,show (10:Nat) = 7 + 3 from rfl,pu_gaps16 7 0 hg,hG]
    have h17:pu 17 [seaI (Int.ofNat m) (q.map Int.ofNat),IV by'] = some (tup2 (.agg ⟨[IV (Int.ofNat m),slI 0 ((marksN m (turnN m (bitsOf q) (plc m by'))).map Int.ofNat)]⟩) (IV 0)):=by rw [←sea_seaI,hpu 17 rfl,show (10:Nat) = 6 + 4 from rfl,pu_turn17 6 0 hg,seaF_ints]
    have h18:pu 18 [seaI (Int.ofNat m) (q.map Int.ofNat),IV by'] = some (tup2 (.agg ⟨[IV (Int.ofNat m),slI 0 ((marksN m (turnN m (bitsOf q) (plc m by'))).map Int.ofNat)]⟩) (IV 0)):=by rw [←sea_seaI,hpu 18 rfl,show (10:Nat) = 7 + 3 from rfl,pu_turn18 7 0 hg,seaF_ints]
    have h19:pu 19 [seaI (Int.ofNat m) (q.map Int.ofNat)] = some (tup2 (.agg ⟨[IV (Int.ofNat m),slI 0 ((minT m (bitsOf q)).map Int.ofNat)]⟩) (IV 0)):=by rw [←sea_seaI,hpu 19 rfl,show (10:Nat) = 5 + 5 from rfl,pu_first19 5 0 hg,seaF_ints]
    have h20:pu 20 [seaI (Int.ofNat m) (q.map Int.ofNat)] = some (tup2 (.agg ⟨[IV (Int.ofNat m),slI 0 ((minT m (bitsOf q)).map Int.ofNat)]⟩) (IV 0)):=by rw [←sea_seaI,hpu 20 rfl,show (10:Nat) = 6 + 4 from rfl,pu_first20 6 0 hg,seaF_ints]
    have h23:∀ X:List Int,∀ f,X.length < 900000→pu 23 [slI f X,slI f X] = some (.bool true):=fun X f hX=>by rw [hpu 23 rfl];exact same_self 9 f hX
    have h24:∀ (c:Int) (X:List Int),X.length < 900000→pu 24 [.agg ⟨[IV c,slI 0 X]⟩,.agg ⟨[IV c,slI 0 X]⟩] = some (.bool true):=fun c X hX=>by rw [hpu 24 rfl];exact equal_self 8 0 c hX
    by_cases hc':checkI n' l' = 0
    ·obtain ⟨m', q', rfl, rfl, c1, c2, c3, c4, c5⟩ := checkI_inv hc'
     have hg':Good m' q':=⟨c1,c2,c3,c4,c5⟩
     obtain ⟨x,b,e,hA⟩:=alike_shape m m' q q'
     have h21:pu 21 [seaI (Int.ofNat m) (q.map Int.ofNat),seaI (Int.ofNat m') (q'.map Int.ofNat)] = some (tup3 (IV x) (.bool b) (IV e)):=by rw [←sea_seaI,←sea_seaI,hpu 21 rfl,show (10:Nat) = 6 + 4 from rfl,pu_alike21 6 0 0 hg hg',hA]
     have h22:pu 22 [seaI (Int.ofNat m) (q.map Int.ofNat),seaI (Int.ofNat m') (q'.map Int.ofNat)] = some (tup3 (IV x) (.bool b) (IV e)):=by rw [←sea_seaI,←sea_seaI,hpu 22 rfl,show (10:Nat) = 7 + 3 from rfl,pu_alike22 7 0 0 hg hg',hA]
     exact seals_tail pu h14 _ _ _ _ _ h15 h16 h17 h18 h19 h20 h21 h22 h25 h26 (h23 G g (by omega)) (h24 _ _ (by simp;omega)) (h24 _ _ (by simp;omega))
    ·have h21 : pu 21 [seaI (Int.ofNat m) (q.map Int.ofNat), seaI n' l'] = some (tup3 (IV 0) (.bool false) (IV (checkI n' l'))) := by rw [← sea_seaI, hpu 21 rfl]; exact bad21' 7 hl' hc' hg
     have h22:pu 22 [seaI (Int.ofNat m) (q.map Int.ofNat),seaI n' l'] = some (tup3 (IV 0) (.bool false) (IV (checkI n' l'))):=by rw [←sea_seaI,hpu 22 rfl];exact bad22' 7 hl' hc' hg
     exact seals_tail pu h14 _ _ _ _ _ h15 h16 h17 h18 h19 h20 h21 h22 h25 h26 (h23 G g (by omega)) (h24 _ _ (by simp;omega)) (h24 _ _ (by simp;omega))
   ·refine seals_tail pu h14 (G := []) (C := []) (D := []) (g := 2) (c' := 2) (d' := 2) (c := 0) (d := 0) (x := 0) (b := false) (checkI n l) (checkI n l) (checkI n l) (checkI n l) (checkI n l) ?_ ?_ ?_ ?_ ?_ ?_ ?_ ?_ h25 h26 ?_ ?_ ?_
    ·rw [hpu 15 rfl];exact bad15 7 hl hc
    ·rw [hpu 16 rfl];exact bad16 7 hl hc
    ·rw [hpu 17 rfl];exact bad17 7 hl hc by'
    ·rw [hpu 18 rfl];exact bad18 7 hl hc by'
    ·rw [hpu 19 rfl];exact bad19 7 hl hc
    ·rw [hpu 20 rfl];exact bad20 7 hl hc
    ·rw [hpu 21 rfl];exact bad21 7 hl hc n' l'
    ·rw [hpu 22 rfl];exact bad22 7 hl hc n' l'
    ·rw [hpu 23 rfl];exact same_self 9 2 (by simp)
    ·rw [hpu 24 rfl];exact equal_self 8 2 0 (by simp)
    ·rw [hpu 24 rfl];exact equal_self 8 2 0 (by simp)
end Go.RgP
