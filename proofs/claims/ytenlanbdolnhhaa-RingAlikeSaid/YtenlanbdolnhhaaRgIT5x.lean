/- seal, reaches, times. -/
import Derived.Test.YtenlanbdolnhhaaRgIL65x

set_option maxRecDepth 100000
set_option maxHeartbeats 4000000
namespace Go.RgP
open Go Go.Sp Go.RgIM
theorem p66 (k:Nat) (args:List Value):puN (k + 1) 66 args = m66 (puN k) L args:=by kernel_rfl
noncomputable def reachV (o:Option Nat):Value:=match o with
 | none=>tup2 (IV 0) (.bool false)
 | some b=>tup2 (IV (Int.ofNat b)) (.bool true)
theorem reach_loop (k : Nat) {n s o : Nat} (hn : n ≤ 21) (hs : s < 2 ^ n) : ∀ (j w b : Nat), j < w → b + j = n →
 l70_1 (puN (k + 1)) L w (Int.ofNat n) (Int.ofNat b) (Int.ofNat n) (Int.ofNat s) (Int.ofNat n) (Int.ofNat o) = some (reachV ((List.range' b j).find? fun b=>Nat.beq (turnN n s b) o))
 | j,0,_,h,_=>by omega
 | 0, w + 1, b, _, hb => by
  show b70_1 (puN (k + 1)) L (l70_1 (puN (k + 1)) L w) (Int.ofNat n) (Int.ofNat b) (Int.ofNat n) (Int.ofNat s) (Int.ofNat n) (Int.ofNat o) = _
  unfold b70_1
  rw [ilt_nat,show Nat.blt b n = false from by rw [blt_eq];simp;omega];rfl
 | j + 1, w + 1, b, hw, hb => by
  show b70_1 (puN (k + 1)) L (l70_1 (puN (k + 1)) L w) (Int.ofNat n) (Int.ofNat b) (Int.ofNat n) (Int.ofNat s) (Int.ofNat n) (Int.ofNat o) = _
  have ih:=reach_loop k (o:=o) hn hs j w (b + 1) (by omega) (by omega)
  unfold b70_1
  rw [ilt_nat,show Nat.blt b n = true from by rw [blt_eq];simp;omega,bb_true]
  show oo (puN (k + 1) 65 [tv n s,IV (Int.ofNat b)]) none _ = _
  rw [pu_turned k hn hs (by omega),oo_some]
  show bb (bq true (an (ieq (Int.ofNat n) (Int.ofNat n)) (an (ieq (Int.ofNat (turnN n s b)) (Int.ofNat o)) true))) (some (tup2 (IV (Int.ofNat b)) (.bool true))) (l70_1 (puN (k + 1)) L w (Int.ofNat n) (wrapF .i64 (Int.add (Int.ofNat b) (1:Int))) (Int.ofNat n) (Int.ofNat s) (Int.ofNat n) (Int.ofNat o)) = _
  rw [ieq_nat,ieq_nat,Nat.beq_refl,wrapS b (by omega),ih,List.range'_succ]
  cases hc:Nat.beq (turnN n s b) o with
  | true=>rw [List.find?_cons_of_pos (p:=fun b=>Nat.beq (turnN n s b) o) hc];rfl
  | false=>rw [List.find?_cons_of_neg (p:=fun b=>Nat.beq (turnN n s b) o) (by rw [hc];simp)];rfl
theorem p70 (k:Nat) (args:List Value):puN (k + 1) 70 args = m70 (puN k) L args:=by kernel_rfl
theorem pu_reaches (k:Nat) {n s o:Nat} (hn:n≤21) (hs:s < 2 ^ n):puN (k + 2) 70 [tv n s,tv n o] = some (reachV (reachN n s o)):=by
 rw [p70]
 have h:=reach_loop k (o:=o) hn hs n L 0 (by show n < 1000000;omega) (by omega)
 rw [←List.range_eq_range'] at h
 exact h
theorem times_loop (k : Nat) {n s : Nat} (hn0 : 0 < n) (hn : n ≤ 21) {m : Int} (hm : -100 ≤ m) (hm2 : m ≤ 100) {l : List Nat} (hl : l.length ≤ 60) (hln : ∀ x ∈ l, x < n) (z1 z2 : Int) : ∀ (r : List Nat) (w i z : Nat), l.drop i = r → r.length < w → i ≤ l.length → z < 2 ^ n →
 l71_1 (puN (k + 1)) L w m ⟨l.length,0,vL l⟩ (Int.ofNat l.length) (Int.ofNat i) (Int.ofNat n) (Int.ofNat s) z1 z2 (Int.ofNat n) (Int.ofNat z) = some (tv n (setOf (fun p=>plc n ((p:Int) * m)) r z))
 | _,0,_,_,_,h,_,_=>by omega
 | [], w + 1, i, z, hd, _, hi, _ => by
  show b71_1 (puN (k + 1)) L (l71_1 (puN (k + 1)) L w) m ⟨l.length,0,vL l⟩ (Int.ofNat l.length) (Int.ofNat i) (Int.ofNat n) (Int.ofNat s) z1 z2 (Int.ofNat n) (Int.ofNat z) = _
  have:l.length≤i:=List.drop_eq_nil_iff.1 hd
  unfold b71_1
  rw [ilt_nat,show Nat.blt i l.length = false from by rw [blt_eq];simp;omega];rfl
 | p :: r, w + 1, i, z, hd, hw, hi, hz => by
  show b71_1 (puN (k + 1)) L (l71_1 (puN (k + 1)) L w) m ⟨l.length,0,vL l⟩ (Int.ofNat l.length) (Int.ofNat i) (Int.ofNat n) (Int.ofNat s) z1 z2 (Int.ofNat n) (Int.ofNat z) = _
  obtain ⟨hd2,hi2,hp⟩:=drop_next hd
  have hr:(p :: r).length = r.length + 1:=rfl
  have hlt:Nat.blt i l.length = true:=by rw [blt_eq];simp;omega
  have hpn:=hln p hp
  have hpl:=plc_lt hn0 ((p:Int) * m)
  have hk:2 ^ plc n ((p:Int) * m) < 2 ^ n:=Nat.pow_lt_pow_right (by omega) hpl
  have hz2:z ||| 2 ^ plc n ((p:Int) * m) < 2 ^ n:=Nat.or_lt_two_pow hz hk
  have ih:=times_loop k (s:=s) hn0 hn hm hm2 hl hln z1 z2 r w (i + 1) _ hd2 (by omega) (by omega) hz2
  have b1:-3200≤(p:Int) * m:=by
   have:(p:Int) * (-100)≤(p:Int) * m:=Int.mul_le_mul_of_nonneg_left hm (by omega)
   omega
  have b2:(p:Int) * m≤3200:=by
   have:(p:Int) * m≤(p:Int) * 100:=Int.mul_le_mul_of_nonneg_left hm2 (by omega)
   omega
  have e1:wrapF .i64 (Int.mul (Int.ofNat p) m) = (p:Int) * m:=wrapI _ (by show _≤(p:Int) * m;omega) (by show (p:Int) * m≤_;omega)
  unfold b71_1
  rw [ilt_nat,hlt,bb_true,show toN (Int.ofNat i) = some i from rfl,oo_some]
  show bb (an (Nat.blt i l.length) true) (oo (nthL (vL l) (i * 1)) none _) none = _
  rw [hlt,show an true true = true from rfl,bb_true,vL_get hd,oo_some,show ∀ z,toI .i64 (IV z) = some z from fun _=>rfl,oo_some,e1]
  show oo (puN (k + 1) 62 [tv n s,IV ((p:Int) * m)]) none _ = _
  rw [pu_on2 k hn0 (by omega),oo_some,show ∀ z,toI .i64 (IV z) = some z from fun _=>rfl,oo_some,show ∀ j,toN (Int.ofNat j) = some j from fun _=>rfl,oo_some,shl32 (by omega),aor32 (lt32 (by omega) hz) (lt32 (by omega) hk),wrapS i (by omega),ih];rfl
theorem p71 (k:Nat) (args:List Value):puN (k + 1) 71 args = m71 (puN k) L args:=by kernel_rfl
noncomputable def timesN (n s:Nat) (m:Int):Nat:=setOf (fun p=>plc n ((p:Int) * m)) (marksN n s) 0
theorem timesN_lt {n s:Nat} (hn0:0 < n) {m:Int}:timesN n s m < 2 ^ n:=setOf_lt _ (Nat.two_pow_pos n) fun p _=>plc_lt hn0 _
theorem pu_times (k:Nat) {n s:Nat} (hn0:0 < n) (hn:n≤21) (hs:s < 2 ^ n) {m:Int} (hm:-100≤m) (hm2:m≤100):puN (k + 3) 71 [tv n s,IV m] = some (tv n (timesN n s m)):=by
 have hs32:=lt32 (n:=n) (by omega) hs
 have hlen:=marks_len (n:=n) (s:=s)
 rw [p71]
 show oo (puN (k + 2) 80 [tv n s]) none _ = _
 rw [pu_marks k (by omega),oo_some]
 have h:=times_loop (k + 1) (s:=s) hn0 hn hm hm2 (l:=marksN n s) (by omega) (fun x hx=>((mem_marks hs32).1 hx).1) 0 0 (marksN n s) L 0 0 List.drop_zero (by show _ < 1000000;omega) (by omega) (Nat.two_pow_pos n)
 rw [show k + 1 + 1 = k + 2 from rfl] at h
 exact h
end Go.RgP
set_option maxRecDepth 100000
set_option maxHeartbeats 4000000
namespace Go.RgP
open Go Go.Sp Go.RgIM
theorem check_loop (pu : PureF) (L : Nat) {n : Int} {l : List Int} (hl : l.length < 900000) (f f' : Nat) (l' : List Value) (m' : Nat) : ∀ (r : List Int) (w i : Nat) (last : Int), l.drop i = r → r.length < w → i ≤ l.length →
 l25_2 pu L w last ⟨l.length,f,iLI l⟩ (Int.ofNat l.length) (Int.ofNat i) n ⟨m',f',l'⟩ = some (IV (chk n r last))
 | _,0,_,_,_,h,_=>by omega
 | [], w + 1, i, last, hd, _, hi => by
  show b25_2 pu L (l25_2 pu L w) last ⟨l.length,f,iLI l⟩ (Int.ofNat l.length) (Int.ofNat i) n ⟨m',f',l'⟩ = _
  have h1:l.length≤i:=List.drop_eq_nil_iff.1 hd
  unfold b25_2
  rw [ilt_nat,show Nat.blt i l.length = false from by rw [blt_eq];simp;omega];rfl
 | x :: r, w + 1, i, last, hd, hw, hi => by
  show b25_2 pu L (l25_2 pu L w) last ⟨l.length,f,iLI l⟩ (Int.ofNat l.length) (Int.ofNat i) n ⟨m',f',l'⟩ = _
  obtain ⟨hd2,hi2,_⟩:=dropI_next hd
  have hr:(x :: r).length = r.length + 1:=rfl
  have hlt:Nat.blt i l.length = true:=by rw [blt_eq];simp;omega
  have ih:=check_loop pu L (n:=n) hl f f' l' m' r w (i + 1) x hd2 (by omega) (by omega)
  unfold b25_2
  rw [ilt_nat,hlt,bb_true,show toN (Int.ofNat i) = some i from rfl,oo_some]
  show bb (an (Nat.blt i l.length) true) (oo (nthL (iLI l) (i * 1)) none _) none = _
  rw [hlt,show an true true = true from rfl,bb_true,iLI_get hd,oo_some,show ∀ z,toI .i64 (IV z) = some z from fun _=>rfl,oo_some]
  show bb (ilt x 0) (bb true (some (IV 2)) _) (bb (nt (ilt x n)) (some (IV 2)) (bb (nt (ilt last x)) (some (IV 7)) (l25_2 pu L w x ⟨l.length,f,iLI l⟩ (Int.ofNat l.length) (wrapF .i64 (Int.add (Int.ofNat i) (1:Int))) n ⟨m',f',l'⟩))) = some (IV (bif ilt x 0 then 2 else bif nt (ilt x n) then 2 else bif nt (ilt last x) then 7 else chk n r x))
  rw [wrapS i (by omega),ih]
  cases ilt x 0 <;> cases nt (ilt x n) <;> cases nt (ilt last x) <;> rfl
theorem p25 (k:Nat) (args:List Value):puN (k + 1) 25 args = m25 (puN k) L args:=by kernel_rfl
theorem pu_check (k f:Nat) (n:Int) {l:List Int} (hl:l.length < 900000):puN (k + 1) 25 [.agg ⟨[IV n,slI f l]⟩] = some (IV (checkI n l)):=by
 rw [p25]
 show bb (ilt n 1) (m25_0 (puN k) L true n ⟨l.length,f,iLI l⟩) (m25_0 (puN k) L (ilt 21 n) n ⟨l.length,f,iLI l⟩) = _
 have h:=check_loop (puN k) L (n:=n) hl f f (iLI l) l.length l L 0 (-1) List.drop_zero (by show _ < 1000000;omega) (by omega)
 have h0:∀ b,m25_0 (puN k) L b n ⟨l.length,f,iLI l⟩ = some (IV (bif b then 1 else bif Nat.blt 6 l.length then 3 else chk n l (-1))):=fun b=>by
  show bb b (some (IV 1)) (bb (ilt (6:Int) (Int.ofNat l.length)) (some (IV 3)) (l25_2 (puN k) L L (-1:Int) ⟨l.length,f,iLI l⟩ (Int.ofNat l.length) (0:Int) n ⟨l.length,f,iLI l⟩)) = _
  have h:l25_2 (puN k) L L (-1:Int) ⟨l.length,f,iLI l⟩ (Int.ofNat l.length) (0:Int) n ⟨l.length,f,iLI l⟩ = some (IV (chk n l (-1))):=h
  rw [h,show (6:Int) = Int.ofNat 6 from rfl,ilt_nat]
  cases b <;> cases Nat.blt 6 l.length <;> rfl
 rw [h0,h0]
 unfold checkI
 cases ilt n 1 <;> cases ilt 21 n <;> rfl
theorem made_loop (pu : PureF) (L n : Nat) {l : List Nat} (hl : ∀ x ∈ l, x < 31) (hl2 : l.length < 900000) (f : Nat) (a b : Int) : ∀ (r : List Nat) (w i z : Nat), l.drop i = r → r.length < w → i ≤ l.length → z < 2 ^ 31 →
 l96_1 pu L w ⟨l.length,f,vL l⟩ (Int.ofNat l.length) (Int.ofNat i) a b (Int.ofNat n) (Int.ofNat z) = some (tv n (setOf (fun p=>p) r z))
 | _,0,_,_,_,h,_,_=>by omega
 | [], w + 1, i, z, hd, _, hi, _ => by
  show b96_1 pu L (l96_1 pu L w) ⟨l.length,f,vL l⟩ (Int.ofNat l.length) (Int.ofNat i) a b (Int.ofNat n) (Int.ofNat z) = _
  have:l.length≤i:=List.drop_eq_nil_iff.1 hd
  unfold b96_1
  rw [ilt_nat,show Nat.blt i l.length = false from by rw [blt_eq];simp;omega];rfl
 | p :: r, w + 1, i, z, hd, hw, hi, hz => by
  show b96_1 pu L (l96_1 pu L w) ⟨l.length,f,vL l⟩ (Int.ofNat l.length) (Int.ofNat i) a b (Int.ofNat n) (Int.ofNat z) = _
  obtain ⟨hd2,hi2,hb'⟩:=drop_next hd
  have hp:=hl p hb'
  have hr:(p :: r).length = r.length + 1:=rfl
  have hlt:Nat.blt i l.length = true:=by rw [blt_eq];simp;omega
  have hk:2 ^ p < 2 ^ 31:=Nat.pow_lt_pow_right (by omega) hp
  have hz2:z ||| 2 ^ p < 2 ^ 31:=Nat.or_lt_two_pow hz hk
  have ih:=made_loop pu L n hl hl2 f a b r w (i + 1) _ hd2 (by omega) (by omega) hz2
  unfold b96_1
  rw [ilt_nat,hlt,bb_true,show toN (Int.ofNat i) = some i from rfl,oo_some]
  show bb (an (Nat.blt i l.length) true) (oo (nthL (vL l) (i * 1)) none _) none = _
  rw [hlt,show an true true = true from rfl,bb_true,vL_get hd,oo_some,show toI .i64 (IV (Int.ofNat p)) = some (Int.ofNat p) from rfl,oo_some,show toN (Int.ofNat p) = some p from rfl,oo_some,shl32 (by omega),aor32 (by omega) (by omega),wrapS i (by omega),ih];rfl
theorem p96 (k:Nat) (args:List Value):puN (k + 1) 96 args = m96 (puN k) L args:=by kernel_rfl
theorem pu_made (k n f:Nat) {l:List Nat} (hl:∀ x ∈ l,x < 31) (hl2:l.length < 900000):puN (k + 1) 96 [IV (Int.ofNat n),Sl.v 1 ⟨l.length,f,vL l⟩] = some (tv n (bitsOf l)):=by
 rw [p96]
 exact made_loop (puN k) L n hl hl2 f 0 0 l L 0 0 List.drop_zero (by show _ < 1000000;omega) (by omega) (by omega)
theorem p61 (k:Nat) (args:List Value):puN (k + 1) 61 args = m61 (puN k) L args:=by kernel_rfl
theorem pu_opened (k f:Nat) {n:Nat} {l:List Nat} (hn0:0 < n) (hn:n≤21) (hl:l.length≤6) (h1:l.Pairwise (· < ·)) (h2:∀ x ∈ l,x < n):puN (k + 2) 61 [.agg ⟨[IV (Int.ofNat n),Sl.v 1 ⟨l.length,f,vL l⟩]⟩] = some (tup2 (tv n (bitsOf l)) (IV 0)):=by
 rw [p61]
 show oo (puN (k + 1) 25 [.agg ⟨[IV (Int.ofNat n),Sl.v 1 ⟨l.length,f,vL l⟩]⟩]) none _ = _
 have hc:=pu_check k f (Int.ofNat n) (l:=l.map Int.ofNat) (by simp;omega)
 rw [checkI_ok hn0 hn hl h1 h2] at hc
 rw [show Sl.v 1 ⟨l.length,f,vL l⟩ = slI f (l.map Int.ofNat) from by unfold slI;rw [vL_iLI,List.length_map],hc,oo_some]
 show oo (puN (k + 1) 96 [IV (Int.ofNat n),slI f (l.map Int.ofNat)]) none _ = _
 have hm:=pu_made k n f (l:=l) (fun x hx=>by have:=h2 x hx;omega) (by omega)
 rw [show slI f (l.map Int.ofNat) = Sl.v 1 ⟨l.length,f,vL l⟩ from by unfold slI;rw [vL_iLI,List.length_map],hm];rfl
end Go.RgP
set_option maxRecDepth 100000
set_option maxHeartbeats 4000000
namespace Go.RgP
open Go Go.Sp Go.RgIM
def gapAt (n:Nat) (l:List Nat) (i:Nat):Nat:=plc n ((((l[(i + 1) % l.length]?).getD 0:Nat):Int) - (((l[i]?).getD 0:Nat):Int) - 1) + 1
theorem up_at {l:List Nat} (h:l.Pairwise (· < ·)) {i j a b:Nat} (hi:l[i]? = some a) (hj:l[j]? = some b) (hij:i < j):a < b:=by
 obtain ⟨h1,rfl⟩:=List.getElem?_eq_some_iff.1 hi
 obtain ⟨h2,rfl⟩:=List.getElem?_eq_some_iff.1 hj
 exact List.pairwise_iff_getElem.1 h i j h1 h2 hij
theorem gap_spec {n:Nat} {l:List Nat} (h:Good n l) {i m:Nat} (hi:l[i]? = some m):gapAt n l i≤n∧0 < gapAt n l i∧(m + gapAt n l i) % n ∈ l∧∀ d,0 < d→d < gapAt n l i→(m + d) % n ∉ l:=by
 have hn0:=h.pos
 have hil:i < l.length:=(List.getElem?_eq_some_iff.1 hi).1
 have hm:=h.lt m (List.mem_of_getElem? hi)
 have hmod:(i + 1) % l.length < l.length:=Nat.mod_lt _ (by omega)
 obtain ⟨x,hx⟩:∃ x,l[(i + 1) % l.length]? = some x:=⟨l[(i + 1) % l.length],by simp [hmod]⟩
 have hxm:=List.mem_of_getElem? hx
 have hxn:=h.lt x hxm
 have hg:gapAt n l i = plc n ((x:Int) - (m:Int) - 1) + 1:=by unfold gapAt;rw [hx,hi];rfl
 have hpl:=plc_lt hn0 ((x:Int) - (m:Int) - 1)
 by_cases hlast:i + 1 < l.length
 ·rw [Nat.mod_eq_of_lt hlast] at hx
  have hmx:=up_at h.up hi hx (by omega)
  have e:plc n ((x:Int) - (m:Int) - 1) = x - m - 1:=by
   rw [show (x:Int) - (m:Int) - 1 = ((x - m - 1:Nat):Int) by omega,plc_nat]
   exact Nat.mod_eq_of_lt (by omega)
  rw [hg,e]
  refine ⟨by omega,by omega,?_,fun d d1 d2 hd=>?_⟩
  ·rw [show m + (x - m - 1 + 1) = x by omega,Nat.mod_eq_of_lt hxn];exact hxm
  ·rw [Nat.mod_eq_of_lt (by omega)] at hd
   obtain ⟨j,hj⟩:=List.getElem?_of_mem hd
   by_cases h1:j≤i
   ·rcases Nat.lt_or_eq_of_le h1 with h2 | h2
    ·have:=up_at h.up hj hi h2;omega
    ·subst h2;rw [hi] at hj;injection hj;omega
   ·by_cases h2 : j = i + 1
    ·subst h2;rw [hx] at hj;injection hj;omega
    ·have:=up_at h.up hx hj (by omega);omega
 ·have hlen : l.length = i + 1 := by omega
  rw [hlen,Nat.mod_self] at hx
  have hxm':x≤m:=by
   rcases Nat.eq_zero_or_pos i with h0 | h0
   ·subst h0;rw [hi] at hx;injection hx;omega
   ·have:=up_at h.up hx hi h0;omega
  have e:plc n ((x:Int) - (m:Int) - 1) = x + n - m - 1:=by
   have e0:(x:Int) - (m:Int) - 1 = ((x + n - m - 1:Nat):Int) + (n:Int) * (-1):=by omega
   rw [e0]
   unfold plc
   rw [Int.add_mul_emod_self_left]
   have:=plc_nat (n:=n) (x + n - m - 1)
   unfold plc at this
   rw [this]
   exact Nat.mod_eq_of_lt (by omega)
  rw [hg,e]
  refine ⟨by omega,by omega,?_,fun d d1 d2 hd=>?_⟩
  ·rw [show m + (x + n - m - 1 + 1) = x + n by omega,Nat.add_mod_right,Nat.mod_eq_of_lt hxn];exact hxm
  ·by_cases h1 : m + d < n
   ·rw [Nat.mod_eq_of_lt h1] at hd
    obtain ⟨j,hj⟩:=List.getElem?_of_mem hd
    have hjl:j < l.length:=(List.getElem?_eq_some_iff.1 hj).1
    rcases Nat.lt_or_eq_of_le (show j≤i by omega) with h2 | h2
    ·have:=up_at h.up hj hi h2;omega
    ·subst h2;rw [hi] at hj;injection hj;omega
   ·rw [Nat.mod_eq_sub_mod (by omega), Nat.mod_eq_of_lt (by omega)] at hd
    obtain ⟨j,hj⟩:=List.getElem?_of_mem hd
    rcases Nat.eq_zero_or_pos j with h2 | h2
    ·subst h2;rw [hx] at hj;injection hj;omega
    ·have:=up_at h.up hx hj h2;omega
theorem gaps_loop (k : Nat) {n : Nat} {l : List Nat} (h : Good n l) (f s : Nat) (z : Int) : ∀ (j w i c : Nat) (q : List Nat), j < w → i + j = l.length → q.length = i → c / 2 = q.length → c % 2 = 0 →
 l15_1 (puN (k + 1)) L w q.length c ⟨l.length,f,vL l⟩ (Int.ofNat l.length) (Int.ofNat i) z ⟨l.length,f,vL l⟩ (Int.ofNat n) (Int.ofNat s) (vL q) = some (tup2 (slv (q ++ (List.range' i j).map (gapAt n l))) (IV 0))
 | j,0,_,_,_,hw,_,_,_,_=>by omega
 | 0, w + 1, i, c, q, _, hk, _, _, _ => by
  show b15_1 (puN (k + 1)) L (l15_1 (puN (k + 1)) L w) q.length c ⟨l.length,f,vL l⟩ (Int.ofNat l.length) (Int.ofNat i) z ⟨l.length,f,vL l⟩ (Int.ofNat n) (Int.ofNat s) (vL q) = _
  unfold b15_1
  rw [vL_closed,bb_true,ilt_nat,show Nat.blt i l.length = false from by rw [blt_eq];simp;omega,bb_false]
  unfold m15_0
  have e1:takeL (q.length * 1) (dropL 0 (vL q)) = vL q:=by
   rw [takeL_eq,dropL_eq,List.drop_zero,Nat.mul_one,←vL_len q,List.take_length]
  rw [e1,vL_closed,bb_true,len_eq,vL_len,show Nat.ble (0 + q.length * 1) q.length = true from Nat.ble_eq_true_of_le (by omega)]
  show _ = some (tup2 (slv (q ++ [])) (IV 0))
  rw [List.append_nil];rfl
 | j + 1, w + 1, i, c, q, hw, hk, hq, hc, hc2 => by
  show b15_1 (puN (k + 1)) L (l15_1 (puN (k + 1)) L w) q.length c ⟨l.length,f,vL l⟩ (Int.ofNat l.length) (Int.ofNat i) z ⟨l.length,f,vL l⟩ (Int.ofNat n) (Int.ofNat s) (vL q) = _
  have hn:=h.le
  have hfew:=h.few
  have hn0:=h.pos
  have hil:i < l.length:=by omega
  obtain ⟨m,hm⟩:∃ m,l[i]? = some m:=⟨l[i],by simp [hil]⟩
  have hmod:(i + 1) % l.length < l.length:=Nat.mod_lt _ (by omega)
  obtain ⟨x,hx⟩:∃ x,l[(i + 1) % l.length]? = some x:=⟨l[(i + 1) % l.length],by simp [hmod]⟩
  have hmn:=h.lt m (List.mem_of_getElem? hm)
  have hxn:=h.lt x (List.mem_of_getElem? hx)
  have hg:gapAt n l i = plc n ((x:Int) - (m:Int) - 1) + 1:=by unfold gapAt;rw [hx,hm];rfl
  have hpl:=plc_lt hn0 ((x:Int) - (m:Int) - 1)
  have c1:nthL (vL l) (i * 1) = some (IV (Int.ofNat m)):=by
   rw [nthL_eq,Nat.mul_one];unfold vL
   rw [List.getElem?_map,hm];rfl
  have c2:nthL (vL l) ((i + 1) % l.length * 1) = some (IV (Int.ofNat x)):=by
   rw [nthL_eq,Nat.mul_one];unfold vL
   rw [List.getElem?_map,hx];rfl
  have hlt:Nat.blt i l.length = true:=by rw [blt_eq];simp;omega
  have hlt2:Nat.blt ((i + 1) % l.length) l.length = true:=by rw [blt_eq];simpa using hmod
  have e2:Int.tmod (wrapF .i64 (Int.add (Int.ofNat i) (1:Int))) (Int.ofNat l.length) = Int.ofNat ((i + 1) % l.length):=by
   rw [wrapS i (by omega)]
   show Int.tmod ((i + 1:Nat):Int) (l.length:Int) = _
   rw [Int.tmod_eq_emod_of_nonneg (by omega),←Int.natCast_emod];rfl
  have e3:wrapF .i64 (Int.sub (wrapF .i64 (Int.sub (Int.ofNat x) (Int.ofNat m))) (1:Int)) = (x:Int) - (m:Int) - 1:=by
   show wrapF .i64 (wrapF .i64 ((x:Int) - (m:Int)) - 1) = _
   rw [wrapI ((x:Int) - (m:Int)) (by omega) (by omega),wrapI _ (by omega) (by omega)]
  have hne:ieq (Int.ofNat l.length) 0 = false:=by rw [show (0:Int) = Int.ofNat 0 from rfl,ieq_nat];exact beq_ne (by omega)
  have ih:=gaps_loop k h f s z j w (i + 1) (2 * (q.length + 1) + bb false 1 0) (q ++ [gapAt n l i]) (by omega) (by omega) (by simp;omega) (by simp) (by simp)
  rw [List.length_append,show [gapAt n l i].length = 1 from rfl] at ih
  unfold b15_1
  rw [vL_closed,bb_true,ilt_nat,hlt,bb_true,show toN (Int.ofNat i) = some i from rfl,oo_some]
  show bb (an (Nat.blt i l.length) true) (oo (nthL (vL l) (i * 1)) none _) none = _
  rw [hlt,show an true true = true from rfl,bb_true,c1,oo_some,show ∀ z,toI .i64 (IV z) = some z from fun _=>rfl,oo_some]
  show bb (nt (ieq (Int.ofNat l.length) (0:Int))) (oo (toN (Int.tmod (wrapF .i64 (Int.add (Int.ofNat i) (1:Int))) (Int.ofNat l.length))) none _) none = _
  rw [hne,show nt false = true from rfl,bb_true,e2,show ∀ j,toN (Int.ofNat j) = some j from fun _=>rfl,oo_some]
  show bb (an (Nat.blt ((i + 1) % l.length) l.length) true) (oo (nthL (vL l) ((i + 1) % l.length * 1)) none _) none = _
  rw [hlt2,show an true true = true from rfl,bb_true,c2,oo_some,show ∀ z,toI .i64 (IV z) = some z from fun _=>rfl,oo_some,e3]
  show oo (puN (k + 1) 62 [tv n s,IV ((x:Int) - (m:Int) - 1)]) none _ = _
  rw [pu_on2 k hn0 (by omega),oo_some]
  show bb (growC 1 8 q.length c 1 (vL q)) (bb (allL closed1 (appL (dropL 0 (vL q)) [.int .i64 (wrapF .i64 (Int.add (Int.ofNat (plc n ((x:Int) - (m:Int) - 1))) (1:Int)))])) (l15_1 (puN (k + 1)) L w (q.length + 1) (2 * (q.length + 1) + bb false 1 0) ⟨l.length,f,vL l⟩ (Int.ofNat l.length) (wrapF .i64 (Int.add (Int.ofNat i) (1:Int))) z ⟨l.length,f,vL l⟩ (Int.ofNat n) (Int.ofNat s) (appL (dropL 0 (vL q)) [.int .i64 (wrapF .i64 (Int.add (Int.ofNat (plc n ((x:Int) - (m:Int) - 1))) (1:Int)))])) none) none = _
  rw [wrapS _ (by omega),←hg,grow_vL (by omega) hc hc2,bb_true,vL_snoc,vL_closed,bb_true,wrapS i (by omega),ih,List.append_assoc,List.range'_succ];rfl
theorem p15 (k:Nat) (args:List Value):puN (k + 1) 15 args = m15 (puN k) L args:=by kernel_rfl
noncomputable def nilQ:Value:=Sl.v 1 (Sl.mk 0 2 [])
noncomputable def gapsV (n:Nat) (l:List Nat):Value:=bif Nat.beq l.length 0 then tup2 nilQ (IV 4) else tup2 (slv ((List.range l.length).map (gapAt n l))) (IV 0)
theorem bits_zero {n:Nat} {l:List Nat} (h:Good n l):Nat.beq (bitsOf l) 0 = Nat.beq l.length 0:=by
 cases l with
 | nil=>rfl
 | cons x l =>
  have:bitsOf (x :: l) ≠ 0:=fun e=>by
   have:=bitsOf_bit (x :: l) x
   rw [e,Nat.zero_testBit] at this
   simp at this
  rw [beq_ne this,beq_ne (by simp)]
theorem pu_gaps (k f:Nat) {n:Nat} {l:List Nat} (h:Good n l):puN (k + 3) 15 [seaF n f l] = some (gapsV n l):=by
 have hn:=h.le
 have hfew:=h.few
 rw [p15]
 show oo (puN (k + 2) 61 [seaF n f l]) none _ = _
 rw [show puN (k + 2) 61 [seaF n f l] = _ from pu_opened k f h.pos h.le h.few h.up h.lt,oo_some]
 show bb (ieq (Int.ofNat (bitsOf l)) (Int.ofNat 0)) (some (tup2 nilQ (IV 4))) (l15_1 (puN (k + 2)) L L 0 0 ⟨l.length,f,vL l⟩ (Int.ofNat l.length) (Int.ofNat 0) (Int.ofNat n) ⟨l.length,f,vL l⟩ (Int.ofNat n) (Int.ofNat (bitsOf l)) []) = _
 have hl:=gaps_loop (k + 1) h f (bitsOf l) (Int.ofNat n) l.length L 0 0 [] (by show _ < 1000000;omega) (by omega) rfl rfl rfl
 rw [show k + 1 + 1 = k + 2 from rfl,←List.range_eq_range',List.nil_append] at hl
 have hl:l15_1 (puN (k + 2)) L L 0 0 ⟨l.length,f,vL l⟩ (Int.ofNat l.length) (Int.ofNat 0) (Int.ofNat n) ⟨l.length,f,vL l⟩ (Int.ofNat n) (Int.ofNat (bitsOf l)) [] = _:=hl
 rw [hl,ieq_nat,bits_zero h]
 unfold gapsV
 cases Nat.beq l.length 0 <;> rfl
end Go.RgP
set_option maxRecDepth 100000
set_option maxHeartbeats 4000000
namespace Go.RgP
open Go Go.Sp Go.RgIM
theorem gap_next {n:Nat} {l:List Nat} (h:Good n l) {i m:Nat} (hi:l[i]? = some m):l[(i + 1) % l.length]? = some ((m + gapAt n l i) % n):=by
 have hn0:=h.pos
 have hil:i < l.length:=(List.getElem?_eq_some_iff.1 hi).1
 have hm:=h.lt m (List.mem_of_getElem? hi)
 have hmod:(i + 1) % l.length < l.length:=Nat.mod_lt _ (by omega)
 obtain ⟨x,hx⟩:∃ x,l[(i + 1) % l.length]? = some x:=⟨l[(i + 1) % l.length],by simp [hmod]⟩
 have hxn:=h.lt x (List.mem_of_getElem? hx)
 have hg:gapAt n l i = plc n ((x:Int) - (m:Int) - 1) + 1:=by unfold gapAt;rw [hx,hi];rfl
 have e:=plc_add hn0 ((m + 1:Nat):Int) ((x:Int) - (m:Int) - 1)
 rw [show ((m + 1:Nat):Int) + ((x:Int) - (m:Int) - 1) = (x:Int) by omega,plc_nat,plc_nat,Nat.mod_add_mod,Nat.mod_eq_of_lt hxn] at e
 rw [hx,hg,show m + (plc n ((x:Int) - (m:Int) - 1) + 1) = m + 1 + plc n ((x:Int) - (m:Int) - 1) by omega,←e]
theorem gap_bit {n:Nat} {l:List Nat} (h:Good n l) {i m:Nat} (hi:l[i]? = some m) {d:Nat} (hd:0 < d) (hd2:d≤gapAt n l i):(bitsOf l).testBit ((m + d) % n) = decide (d = gapAt n l i):=by
 obtain ⟨_,_,g3,g4⟩:=gap_spec h hi
 rw [bitsOf_bit]
 refine decide_eq_decide.2 ⟨fun hm=>?_,fun e=>by rw [e];exact g3⟩
 rcases Nat.lt_or_eq_of_le hd2 with h1 | h1
 ·exact absurd hm (g4 d hd h1)
 ·exact h1
def gapsL (n:Nat) (l:List Nat):List Nat:=(List.range l.length).map (gapAt n l)
theorem gapsL_len (n:Nat) (l:List Nat):(gapsL n l).length = l.length:=by unfold gapsL;simp
theorem gapsL_get {n:Nat} {l:List Nat} {i:Nat} (hi:i < l.length):(gapsL n l)[i]? = some (gapAt n l i):=by unfold gapsL;simp [hi]
theorem gap_step {n:Nat} {l:List Nat} (h:Good n l) {i m x:Nat} (hi:l[i]? = some m) (hx:l[i + 1]? = some x):gapAt n l i = x - m∧m < x:=by
 have hlt:=up_at h.up hi hx (by omega)
 have hil:i + 1 < l.length:=(List.getElem?_eq_some_iff.1 hx).1
 have e:=gap_next h hi
 rw [Nat.mod_eq_of_lt hil,hx] at e
 injection e with e
 obtain ⟨g1,g2,_⟩:=gap_spec h hi
 have hxn:=h.lt x (List.mem_of_getElem? hx)
 refine ⟨?_,hlt⟩
 by_cases h1:m + gapAt n l i < n
 ·rw [Nat.mod_eq_of_lt h1] at e;omega
 ·rw [Nat.mod_eq_sub_mod (by omega),Nat.mod_eq_of_lt (by omega)] at e;omega
theorem gap_pre {n : Nat} {l : List Nat} (h : Good n l) {a : Nat} (ha : l[0]? = some a) : ∀ (j m : Nat), l[j]? = some m → ((List.range j).map (gapAt n l)).sum + a = m
 | 0, m, hm => by
  rw [ha] at hm;injection hm with hm
  simpa using hm
 | j + 1, x, hx => by
  have hjl:j + 1 < l.length:=(List.getElem?_eq_some_iff.1 hx).1
  obtain ⟨m,hm⟩:∃ m,l[j]? = some m:=⟨l[j],by simp [show j < l.length by omega]⟩
  obtain ⟨g1,g2⟩:=gap_step h hm hx
  have ih:=gap_pre h ha j m hm
  rw [List.range_succ,List.map_append,List.sum_append,List.map_singleton,List.sum_singleton,g1];omega
theorem gaps_sum {n:Nat} {l:List Nat} (h:Good n l) (hl:l.length ≠ 0):(gapsL n l).sum = n:=by
 obtain ⟨c,hc⟩:∃ c,l.length = c + 1:=⟨l.length - 1,by omega⟩
 obtain ⟨a,ha⟩:∃ a,l[0]? = some a:=⟨l[0],by simp [show 0 < l.length by omega]⟩
 obtain ⟨m,hm⟩:∃ m,l[c]? = some m:=⟨l[c],by simp [show c < l.length by omega]⟩
 have hp:=gap_pre h ha c m hm
 have hmn:=h.lt m (List.mem_of_getElem? hm)
 have han:=h.lt a (List.mem_of_getElem? ha)
 have e:=gap_next h hm
 rw [hc,Nat.mod_self,ha] at e
 injection e with e
 obtain ⟨g1,g2,_⟩:=gap_spec h hm
 unfold gapsL
 rw [hc,List.range_succ,List.map_append,List.sum_append,List.map_singleton,List.sum_singleton]
 by_cases h1:m + gapAt n l c < n
 ·rw [Nat.mod_eq_of_lt h1] at e;omega
 ·rw [Nat.mod_eq_sub_mod (by omega),Nat.mod_eq_of_lt (by omega)] at e;omega
def rotL (i:Nat) (g:List Nat):List Nat:=g.drop i ++ g.take i
theorem rot_len (i:Nat) (g:List Nat):(rotL i g).length = g.length:=by unfold rotL;simp;omega
theorem rot_get {i j:Nat} {g:List Nat} (hi:i < g.length) (hj:j < g.length):(rotL i g)[j]? = g[(i + j) % g.length]?:=by
 unfold rotL
 by_cases h:i + j < g.length
 ·rw [List.getElem?_append_left (by simp;omega),List.getElem?_drop,Nat.mod_eq_of_lt h]
 ·rw [List.getElem?_append_right (by simp; omega), List.length_drop, List.getElem?_take_of_lt (by omega), Nat.mod_eq_sub_mod (by omega), Nat.mod_eq_of_lt (by omega)]
  congr 1;omega
theorem rot_eq {i:Nat} {g g':List Nat} (hl:g.length = g'.length) (hi:i < g.length):rotL i g = g'↔∀ j,j < g.length→g[(i + j) % g.length]? = g'[j]?:=by
 constructor
 ·intro e j hj
  rw [←rot_get hi hj,e]
 ·intro h
  apply List.ext_getElem?
  intro j
  by_cases hj:j < g.length
  ·rw [rot_get hi hj,h j hj]
  ·rw [List.getElem?_eq_none (by rw [rot_len];omega),List.getElem?_eq_none (by omega)]
theorem turn_mem {n:Nat} {l l':List Nat} (h:Good n l) (h':Good n l') {b:Nat} (hb:b < n) (e:turnN n (bitsOf l) b = bitsOf l') {q:Nat} (hq:q < n):q ∈ l'↔(q + (n - b)) % n ∈ l:=by
 have hn:=h.le
 have h1:=bitsOf_bit l' q
 rw [←e,turn_bit (by omega) (bitsOf_lt h.lt) hb,bitsOf_bit,decide_eq_true hq,Bool.true_and] at h1
 exact (decide_eq_decide.1 h1).symm
theorem mod_back {n a b:Nat} (ha:a < n) (hb:b < n):((a + b) % n + (n - b)) % n = a:=by
 rw [Nat.mod_add_mod,show a + b + (n - b) = a + n by omega,Nat.add_mod_right,Nat.mod_eq_of_lt ha]
theorem back_mod {n a b:Nat} (ha:a < n) (hb:b < n):((a + (n - b)) % n + b) % n = a:=by
 rw [Nat.mod_add_mod,show a + (n - b) + b = a + n by omega,Nat.add_mod_right,Nat.mod_eq_of_lt ha]
theorem rot_turn {n:Nat} {l l':List Nat} (h:Good n l) (h':Good n l') (hl:l.length = l'.length) {i:Nat} (hi:i < l.length) (hr:rotL i (gapsL n l) = gapsL n l'):(reachN n (bitsOf l) (bitsOf l')).isSome = true:=by
 have hn:=h.le
 have hn0:=h.pos
 rw [rot_eq (by rw [gapsL_len,gapsL_len];exact hl) (by rw [gapsL_len];exact hi)] at hr
 rw [gapsL_len] at hr
 have hg:∀ j,j < l.length→gapAt n l ((i + j) % l.length) = gapAt n l' j:=fun j hj=>by
  have:=hr j hj
  rw [gapsL_get (Nat.mod_lt _ (by omega)),gapsL_get (by omega)] at this
  injection this
 obtain ⟨a,ha⟩:∃ a,l[i]? = some a:=⟨l[i],by simp [hi]⟩
 obtain ⟨a',ha'⟩:∃ a,l'[0]? = some a:=⟨l'[0],by simp [show 0 < l'.length by omega]⟩
 have han:=h.lt a (List.mem_of_getElem? ha)
 have han':=h'.lt a' (List.mem_of_getElem? ha')
 have hd:(a' + (n - a)) % n < n:=Nat.mod_lt _ hn0
 have key:∀ j,j < l.length→∀ m,l[(i + j) % l.length]? = some m→l'[j]? = some ((m + (a' + (n - a)) % n) % n):=by
  intro j
  induction j with
  | zero =>
   intro _ m hm
   rw [Nat.add_zero,Nat.mod_eq_of_lt hi,ha] at hm
   injection hm with hm;subst hm
   rw [ha',Nat.add_mod_mod,show a + (a' + (n - a)) = a' + n by omega,Nat.add_mod_right,Nat.mod_eq_of_lt han']
  | succ j ih =>
   intro hj m hm
   obtain ⟨p, hp⟩ : ∃ p, l[(i + j) % l.length]? = some p := ⟨l[(i + j) % l.length]'(Nat.mod_lt _ (by omega)), by simp [Nat.mod_lt _ (show 0 < l.length by omega)]⟩
   have h1:=ih (by omega) p hp
   have h2:=gap_next h' h1
   rw [Nat.mod_eq_of_lt (show j + 1 < l'.length by omega)] at h2
   have h3:=gap_next h hp
   rw [Nat.mod_add_mod,show i + j + 1 = i + (j + 1) by omega,hm] at h3
   injection h3 with h3
   rw [h2,h3,hg j (by omega),Nat.mod_add_mod,Nat.mod_add_mod]
   congr 2;omega
 have e:turnN n (bitsOf l) ((a' + (n - a)) % n) = bitsOf l':=by
  refine set_ext turn_lt (bitsOf_lt h'.lt) fun q hq=>?_
  rw [turn_bit (by omega) (bitsOf_lt h.lt) hd,bitsOf_bit,bitsOf_bit,decide_eq_true hq,Bool.true_and]
  refine decide_eq_decide.2 ⟨fun hm=>?_,fun hm=>?_⟩
  ·obtain ⟨t, ht⟩ := List.getElem?_of_mem hm
   have htl:t < l.length:=(List.getElem?_eq_some_iff.1 ht).1
   have hj:(t + (l.length - i)) % l.length < l.length:=Nat.mod_lt _ (by omega)
   have:=key _ hj ((q + (n - (a' + (n - a)) % n)) % n) (by rw [Nat.add_mod_mod,show i + (t + (l.length - i)) = t + l.length by omega,Nat.add_mod_right,Nat.mod_eq_of_lt htl];exact ht)
   rw [back_mod hq hd] at this
   exact List.mem_of_getElem? this
  ·obtain ⟨j, hj⟩ := List.getElem?_of_mem hm
   have hjl:j < l'.length:=(List.getElem?_eq_some_iff.1 hj).1
   obtain ⟨p, hp⟩ : ∃ p, l[(i + j) % l.length]? = some p := ⟨l[(i + j) % l.length]'(Nat.mod_lt _ (by omega)), by simp [Nat.mod_lt _ (show 0 < l.length by omega)]⟩
   have:=key j (by omega) p hp
   rw [hj] at this
   injection this with this
   have hpn:=h.lt p (List.mem_of_getElem? hp)
   rw [this,mod_back hpn hd]
   exact List.mem_of_getElem? hp
 unfold reachN
 rw [List.find?_isSome]
 exact ⟨(a' + (n - a)) % n,List.mem_range.2 hd,by rw [e];exact Nat.beq_refl _⟩
theorem turn_rot {n:Nat} {l l':List Nat} (h:Good n l) (h':Good n l') (hl:l.length = l'.length) (hl0:l.length ≠ 0) (hr:(reachN n (bitsOf l) (bitsOf l')).isSome = true):∃ i,i < l.length∧rotL i (gapsL n l) = gapsL n l':=by
 have hn:=h.le
 have hn0:=h.pos
 unfold reachN at hr
 rw [List.find?_isSome] at hr
 obtain ⟨b,hb,he⟩:=hr
 have hb:=List.mem_range.1 hb
 have e:=Nat.eq_of_beq_eq_true he
 obtain ⟨a',ha'⟩:∃ a,l'[0]? = some a:=⟨l'[0],by simp [show 0 < l'.length by omega]⟩
 have hma:=List.mem_of_getElem? ha'
 have han':=h'.lt a' hma
 rw [turn_mem h h' hb e han'] at hma
 obtain ⟨i,hi⟩:=List.getElem?_of_mem hma
 have hil:i < l.length:=(List.getElem?_eq_some_iff.1 hi).1
 have same:∀ j m k,l[k]? = some m→l'[j]? = some ((m + b) % n)→gapAt n l k = gapAt n l' j:=fun j m k hm hm'=>by
  obtain ⟨g1,g2,g3,g4⟩:=gap_spec h hm
  obtain ⟨f1,f2,f3,f4⟩:=gap_spec h' hm'
  have mv:∀ d,((m + b) % n + d) % n ∈ l'↔(m + d) % n ∈ l:=fun d=>by
   rw [turn_mem h h' hb e (Nat.mod_lt _ hn0),show ((m + b) % n + d) % n = ((m + d) % n + b) % n by rw [Nat.mod_add_mod,Nat.mod_add_mod];congr 1;omega,mod_back (Nat.mod_lt _ hn0) hb]
  rcases Nat.lt_trichotomy (gapAt n l k) (gapAt n l' j) with h1 | h1 | h1
  ·exact absurd ((mv _).2 g3) (f4 _ g2 h1)
  ·exact h1
  ·exact absurd ((mv _).1 f3) (g4 _ f2 h1)
 have key:∀ j,j < l.length→∀ m,l[(i + j) % l.length]? = some m→l'[j]? = some ((m + b) % n):=by
  intro j
  induction j with
  | zero =>
   intro _ m hm
   rw [Nat.add_zero,Nat.mod_eq_of_lt hil,hi] at hm
   injection hm with hm;subst hm
   rw [ha',back_mod han' hb]
  | succ j ih =>
   intro hj m hm
   obtain ⟨p, hp⟩ : ∃ p, l[(i + j) % l.length]? = some p := ⟨l[(i + j) % l.length]'(Nat.mod_lt _ (by omega)), by simp [Nat.mod_lt _ (show 0 < l.length by omega)]⟩
   have h1:=ih (by omega) p hp
   have h2:=gap_next h' h1
   rw [Nat.mod_eq_of_lt (show j + 1 < l'.length by omega),←same j p _ hp h1] at h2
   have h3:=gap_next h hp
   rw [Nat.mod_add_mod,show i + j + 1 = i + (j + 1) by omega,hm] at h3
   injection h3 with h3
   rw [h2,h3,Nat.mod_add_mod,Nat.mod_add_mod]
   congr 2;omega
 refine ⟨i,hil,?_⟩
 rw [rot_eq (by rw [gapsL_len,gapsL_len];exact hl) (by rw [gapsL_len];exact hil),gapsL_len]
 intro j hj
 obtain ⟨p, hp⟩ : ∃ p, l[(i + j) % l.length]? = some p := ⟨l[(i + j) % l.length]'(Nat.mod_lt _ (by omega)), by simp [Nat.mod_lt _ (show 0 < l.length by omega)]⟩
 rw [gapsL_get (Nat.mod_lt _ (by omega)),gapsL_get (by omega),same j p _ hp (key j hj p hp)]
theorem rot_any {n:Nat} {l l':List Nat} (h:Good n l) (h':Good n l') (hl0:l.length ≠ 0):((List.range l.length).any fun i=>decide (rotL i (gapsL n l) = gapsL n l')) = (Nat.beq l.length l'.length && (reachN n (bitsOf l) (bitsOf l')).isSome):=by
 rw [Bool.eq_iff_iff,List.any_eq_true,Bool.and_eq_true]
 constructor
 ·rintro ⟨i, hi, e⟩
  have e:=of_decide_eq_true e
  have hlen:l.length = l'.length:=by rw [←gapsL_len n l,←gapsL_len n l',←e,rot_len]
  exact ⟨by rw [hlen];exact Nat.beq_refl _,rot_turn h h' hlen (List.mem_range.1 hi) e⟩
 ·rintro ⟨h1, h2⟩
  obtain ⟨i,hi,e⟩:=turn_rot h h' (Nat.eq_of_beq_eq_true h1) hl0 h2
  exact ⟨i,List.mem_range.2 hi,decide_eq_true e⟩
end Go.RgP
set_option maxRecDepth 100000
set_option maxHeartbeats 4000000
namespace Go.RgP
open Go Go.Sp Go.RgIM
noncomputable def tup3 (a b c:Value):Value:=.tuple ⟨[a,b,c]⟩
theorem p21 (k:Nat) (args:List Value):puN (k + 1) 21 args = m21 (puN k) L args:=by kernel_rfl
noncomputable def alikeV (n s o:Nat):Value:=oo (reachN n s o) (oo (reachN n (timesN n s (-1)) o) (tup3 (IV 0) (.bool false) (IV 12)) fun b=>tup3 (IV (Int.ofNat b)) (.bool true) (IV 0)) fun b=>tup3 (IV (Int.ofNat b)) (.bool false) (IV 0)
noncomputable def alike2 (n:Nat) (l:List Nat) (n':Nat) (l':List Nat):Value:=bif Nat.beq n n' && Nat.beq l.length l'.length then alikeV n (bitsOf l) (bitsOf l') else tup3 (IV 0) (.bool false) (IV 5)
theorem reach_some (o:Option Nat):reachV o = oo o (tup2 (IV 0) (.bool false)) fun b=>tup2 (IV (Int.ofNat b)) (.bool true):=by cases o <;> rfl
theorem alike_core (k:Nat) {n s o:Nat} (hn0:0 < n) (hn:n≤21) (hs:s < 2 ^ n):m21_0 (puN (k + 3)) L false (Int.ofNat n) (Int.ofNat s) (Int.ofNat n) (Int.ofNat o) = some (alikeV n s o):=by
 unfold m21_0 alikeV
 rw [bb_false]
 show oo (puN (k + 3) 70 [tv n s,tv n o]) none _ = _
 rw [pu_reaches (k + 1) hn hs,reach_some,oo_some]
 cases h1:reachN n s o with
 | some b=>rfl
 | none =>
  show oo (puN (k + 3) 71 [tv n s,IV (-1)]) none _ = _
  rw [pu_times k hn0 hn hs (by omega) (by omega),oo_some]
  show oo (puN (k + 3) 70 [tv n (timesN n s (-1)),tv n o]) none _ = _
  rw [pu_reaches (k + 1) hn (timesN_lt hn0),reach_some,oo_some]
  cases reachN n (timesN n s (-1)) o <;> rfl
theorem pu_alike21 (k f f2:Nat) {n n':Nat} {l l':List Nat} (h:Good n l) (h':Good n' l'):puN (k + 4) 21 [seaF n f l,seaF n' f2 l'] = some (alike2 n l n' l'):=by
 rw [p21]
 show oo (puN (k + 3) 61 [seaF n f l]) none _ = _
 rw [show puN (k + 3) 61 [seaF n f l] = _ from pu_opened (k + 1) f h.pos h.le h.few h.up h.lt,oo_some]
 show oo (puN (k + 3) 61 [seaF n' f2 l']) none _ = _
 rw [show puN (k + 3) 61 [seaF n' f2 l'] = _ from pu_opened (k + 1) f2 h'.pos h'.le h'.few h'.up h'.lt,oo_some]
 show bb (nt (ieq (Int.ofNat n) (Int.ofNat n'))) (m21_0 (puN (k + 3)) L true (Int.ofNat n) (Int.ofNat (bitsOf l)) (Int.ofNat n') (Int.ofNat (bitsOf l'))) (m21_0 (puN (k + 3)) L (nt (ieq (Int.ofNat l.length) (Int.ofNat l'.length))) (Int.ofNat n) (Int.ofNat (bitsOf l)) (Int.ofNat n') (Int.ofNat (bitsOf l'))) = _
 rw [ieq_nat,ieq_nat]
 unfold alike2
 cases hc:Nat.beq n n' with
 | false=>rfl
 | true =>
  obtain rfl:=Nat.eq_of_beq_eq_true hc
  cases Nat.beq l.length l'.length with
  | false=>rfl
  | true=>exact alike_core k h.pos h.le (bitsOf_lt h.lt)
end Go.RgP
set_option maxRecDepth 100000
set_option maxHeartbeats 4000000
namespace Go.RgP
open Go Go.Sp Go.RgIM
theorem same2_loop (pu : PureF) (L : Nat) {a b : List Int} (hab : a.length = b.length) (ha : a.length < 900000) (f1 f2 : Nat) : ∀ (r r' : List Int) (w i : Nat), a.drop i = r → b.drop i = r' → r.length < w → i ≤ a.length →
 l10230_1 pu L w ⟨a.length,f1,iLI a⟩ ⟨b.length,f2,iLI b⟩ (Int.ofNat i) = some (.tuple ⟨[.bool (decide (r = r'))]⟩)
 | _,_,0,_,_,_,h,_=>by omega
 | [], r', w + 1, i, hd, hd', _, hi => by
  show b10230_1 pu L (l10230_1 pu L w) ⟨a.length,f1,iLI a⟩ ⟨b.length,f2,iLI b⟩ (Int.ofNat i) = _
  have h1:a.length≤i:=List.drop_eq_nil_iff.1 hd
  have h2:r' = []:=by rw [←hd'];exact List.drop_eq_nil_iff.2 (by omega)
  subst h2
  unfold b10230_1
  show bb (ilt (Int.ofNat i) (Int.ofNat a.length)) _ _ = _
  rw [ilt_nat,show Nat.blt i a.length = false from by rw [blt_eq];simp;omega];simp;rfl
 | x :: r, r', w + 1, i, hd, hd', hw, hi => by
  show b10230_1 pu L (l10230_1 pu L w) ⟨a.length,f1,iLI a⟩ ⟨b.length,f2,iLI b⟩ (Int.ofNat i) = _
  obtain ⟨hd2,hi2,_⟩:=dropI_next hd
  cases r' with
  | nil =>
   have h1:b.length≤i:=List.drop_eq_nil_iff.1 hd'
   omega
  | cons y r' =>
   obtain ⟨hd3,_,_⟩:=dropI_next hd'
   have hr:(x :: r).length = r.length + 1:=rfl
   have hlt:Nat.blt i a.length = true:=by rw [blt_eq];simp;omega
   have hlt2:Nat.blt i b.length = true:=by rw [blt_eq];simp;omega
   have ih:=same2_loop pu L hab ha f1 f2 r r' w (i + 1) hd2 hd3 (by omega) (by omega)
   unfold b10230_1
   show bb (ilt (Int.ofNat i) (Int.ofNat a.length)) (oo (toN (Int.ofNat i)) none fun k=>bb (an (Nat.blt k a.length) true) (oo (nthL (iLI a) (k * 1)) none fun v=>oo (toI .i64 v) none fun x1=>bb (an (Nat.blt k b.length) true) (oo (nthL (iLI b) (k * 1)) none fun v=>oo (toI .i64 v) none fun x2=>bb (nt (ieq x1 x2)) (some (.tuple ⟨[.bool false]⟩)) (l10230_1 pu L w ⟨a.length,f1,iLI a⟩ ⟨b.length,f2,iLI b⟩ (wrapF .i64 (Int.add (Int.ofNat k) (1:Int))))) none) none) (m10230_0 pu L) = _
   rw [ilt_nat, hlt, bb_true, show toN (Int.ofNat i) = some i from rfl, oo_some, hlt, show an true true = true from rfl, bb_true, iLI_get hd, oo_some, show ∀ z, toI .i64 (IV z) = some z from fun _ => rfl, oo_some, hlt2, show an true true = true from rfl, bb_true, iLI_get hd', oo_some,
    show ∀ z,toI .i64 (IV z) = some z from fun _=>rfl,oo_some,wrapS i (by omega),ih,ieq_eq]
   by_cases h:x = y
   ·subst h;simp
   ·have hxy : (x == y) = false := by simpa using h
    have hc:¬ (x :: r = y :: r'):=fun e=>h (by injection e)
    rw [hxy,decide_eq_false hc];rfl
theorem p10230 (k:Nat) (args:List Value):puN (k + 1) 10230 args = m10230 (puN k) L args:=by kernel_rfl
theorem pu_same2 (k f1 f2:Nat) {a b:List Int} (ha:a.length < 900000):puN (k + 1) 10230 [slI f1 a,slI f2 b] = some (.tuple ⟨[.bool (decide (a = b))]⟩):=by
 rw [p10230]
 show bb (nt (ieq (Int.ofNat a.length) (Int.ofNat b.length))) (some (.tuple ⟨[.bool false]⟩)) (l10230_1 (puN k) L L ⟨a.length,f1,iLI a⟩ ⟨b.length,f2,iLI b⟩ (0:Int)) = _
 rw [ieq_nat,beq_dec]
 by_cases h:a.length = b.length
 ·rw [decide_eq_true h, show nt true = false from rfl, bb_false]
  exact same2_loop (puN k) L h ha f1 f2 a b L 0 (List.drop_zero) (List.drop_zero) (by show _ < 1000000;omega) (by omega)
 ·have : ¬ a = b := fun e => h (by rw [e])
  rw [decide_eq_false h,decide_eq_false this];rfl
theorem pu_same2N (k:Nat) {a b:List Nat} (ha:a.length < 900000):puN (k + 1) 10230 [slv a,slv b] = some (.tuple ⟨[.bool (decide (a = b))]⟩):=by
 rw [slv_slI,slv_slI,pu_same2 k 0 0 (by simpa using ha)]
 rw [decide_eq_decide.2 (map_ofNat_inj (a:=a) (b:=b))]
end Go.RgP
set_option maxRecDepth 100000
set_option maxHeartbeats 4000000
namespace Go.RgP
open Go Go.Sp Go.RgIM
theorem markF_add (s : Nat) : ∀ (a b p : Nat), markF s (a + b) p = markF s a p ++ markF s b (p + a)
 | 0,b,p=>by rw [Nat.zero_add];rfl
 | a + 1, b, p => by
  rw [show a + 1 + b = (a + b) + 1 by omega]
  show (bif hasB s p then p :: markF s (a + b) (p + 1) else markF s (a + b) (p + 1)) = (bif hasB s p then p :: markF s a (p + 1) else markF s a (p + 1)) ++ markF s b (p + (a + 1))
  rw [markF_add s a b (p + 1),show p + 1 + a = p + (a + 1) by omega]
  cases hasB s p <;> rfl
theorem markF_shift {s : Nat} (hs : s < 4294967296) (d : Nat) : ∀ (k p : Nat), p + k ≤ 8 → (markF s k (p + d)).length = (markF (s / 2 ^ d % 256) k p).length
 | 0,_,_=>rfl
 | k + 1, p, h => by
  have e:hasB s (p + d) = hasB (s / 2 ^ d % 256) p:=by
   rw [hasB_eq hs,hasB_eq (Nat.lt_of_lt_of_le (Nat.mod_lt _ (by omega)) (by omega)),show (256:Nat) = 2 ^ 8 from rfl,Nat.testBit_mod_two_pow,←Nat.shiftRight_eq_div_pow,Nat.testBit_shiftRight]
   simp [show p < 8 by omega,Nat.add_comm]
  have ih:=markF_shift hs d k (p + 1) (by omega)
  rw [show p + 1 + d = p + d + 1 by omega] at ih
  unfold markF
  rw [e]
  cases hasB (s / 2 ^ d % 256) p with
  | true=>show (markF s k (p + d + 1)).length + 1 = (markF _ k (p + 1)).length + 1;rw [ih]
  | false=>exact ih
noncomputable def popB (b:Nat):Option Nat:=oo (str0[b]?) none fun c=>some c.toNat
theorem pop_tab:mapL popB (List.range 256) = mapL (fun b=>some (len (markF b 8 0))) (List.range 256):=by kernel_rfl
theorem mapL_eq' {α β:Type} (f:α→β) (l:List α):mapL f l = l.map f:=by
 induction l with
 | nil=>rfl
 | cons x l ih=>show f x :: mapL f l = _;rw [ih];rfl
theorem pop_at {b:Nat} (hb:b < 256):∃ c,str0[b]? = some c∧c.toNat = (markF b 8 0).length:=by
 have h:=congrArg (fun l:List (Option Nat)=>l[b]?) pop_tab
 simp only [mapL_eq',List.getElem?_map,List.getElem?_range hb,Option.map_some,len_eq] at h
 injection h with h
 obtain ⟨c,h1,h2⟩:=oo_inv (show oo (str0[b]?) none (fun c=>some c.toNat) = some _ from h)
 injection h2 with h2
 exact ⟨c,h1,h2⟩
theorem p50 (k:Nat) (args:List Value):puN (k + 1) 50 args = m50 (puN k) L args:=by kernel_rfl
theorem wrap8 {a:Nat} (ha:a < 256):wrapF .u8 (Int.ofNat a) = Int.ofNat a:=by
 show Int.ofNat (a % 256) = _
 rw [Nat.mod_eq_of_lt ha]
theorem and255 {a:Nat} (ha:a < 4294967296):aand .u32 (Int.ofNat a) (255:Int) = Int.ofNat (a % 256):=by
 rw [show (255:Int) = Int.ofNat 255 from rfl,aand32 ha (by omega),show (255:Nat) = 2 ^ 8 - 1 from rfl,Nat.and_two_pow_sub_one_eq_mod]
theorem markF_len8 (b:Nat):(markF b 8 0).length≤8:=markF_len b 8 0
theorem pu_ones (k:Nat) {s:Nat} (hs:s < 4294967296):puN (k + 1) 50 [U s] = some (IV (Int.ofNat (marksN 32 s).length)):=by
 rw [p50]
 show m50_ (puN k) L (Int.ofNat s) = _
 unfold m50_
 have d1:s / 2 ^ 16 < 4294967296:=Nat.lt_of_le_of_lt (Nat.div_le_self _ _) hs
 have d2:s / 2 ^ 8 < 4294967296:=Nat.lt_of_le_of_lt (Nat.div_le_self _ _) hs
 have d3:s / 2 ^ 24 < 256:=by omega
 obtain ⟨c0,g0,n0⟩:=pop_at d3
 obtain ⟨c1,g1,n1⟩:=pop_at (b:=s / 2 ^ 16 % 256) (Nat.mod_lt _ (by omega))
 obtain ⟨c2,g2,n2⟩:=pop_at (b:=s / 2 ^ 8 % 256) (Nat.mod_lt _ (by omega))
 obtain ⟨c3,g3,n3⟩:=pop_at (b:=s % 256) (Nat.mod_lt _ (by omega))
 rw [shr32 hs,shr32 hs,shr32 hs,and255 d1,and255 d2,and255 hs]
 show oo (str0[s / 2 ^ 24]?) none _ = _
 rw [g0,oo_some]
 show oo (str0[s / 2 ^ 16 % 256]?) none _ = _
 rw [g1,oo_some]
 show oo (str0[s / 2 ^ 8 % 256]?) none _ = _
 rw [g2,oo_some]
 show oo (str0[s % 256]?) none _ = _
 rw [g3,oo_some,n0,n1,n2,n3]
 have l0:=markF_len8 (s / 2 ^ 24)
 have l1:=markF_len8 (s / 2 ^ 16 % 256)
 have l2:=markF_len8 (s / 2 ^ 8 % 256)
 have l3:=markF_len8 (s % 256)
 show some (IV (wrapF .i64 (wrapF .u8 (Int.add (wrapF .u8 (Int.add (wrapF .u8 (Int.ofNat ((markF (s / 2 ^ 24) 8 0).length + (markF (s / 2 ^ 16 % 256) 8 0).length))) _)) _)))) = _
 rw [wrap8 (by omega)]
 show some (IV (wrapF .i64 (wrapF .u8 (Int.add (wrapF .u8 (Int.ofNat ((markF (s / 2 ^ 24) 8 0).length + (markF (s / 2 ^ 16 % 256) 8 0).length + (markF (s / 2 ^ 8 % 256) 8 0).length))) _)))) = _
 rw [wrap8 (by omega)]
 show some (IV (wrapF .i64 (wrapF .u8 (Int.ofNat ((markF (s / 2 ^ 24) 8 0).length + (markF (s / 2 ^ 16 % 256) 8 0).length + (markF (s / 2 ^ 8 % 256) 8 0).length + (markF (s % 256) 8 0).length))))) = _
 have e:(marksN 32 s).length = (markF (s / 2 ^ 24) 8 0).length + (markF (s / 2 ^ 16 % 256) 8 0).length + (markF (s / 2 ^ 8 % 256) 8 0).length + (markF (s % 256) 8 0).length:=by
  show (markF s (8 + (8 + (8 + 8))) 0).length = _
  rw [markF_add,markF_add,markF_add]
  simp only [List.length_append]
  have q0:=markF_shift hs 0 8 0 (by omega)
  have q1:=markF_shift hs 8 8 0 (by omega)
  have q2:=markF_shift hs 16 8 0 (by omega)
  have q3:=markF_shift hs 24 8 0 (by omega)
  rw [Nat.pow_zero,Nat.div_one] at q0
  rw [show s / 2 ^ 24 % 256 = s / 2 ^ 24 from Nat.mod_eq_of_lt d3] at q3
  simp only [Nat.zero_add] at q0 q1 q2 q3
  show (markF s 8 0).length + ((markF s 8 8).length + ((markF s 8 16).length + (markF s 8 24).length)) = _
  rw [q0,q1,q2,q3];omega
 generalize (markF (s / 2 ^ 24) 8 0).length = a0 at *
 generalize (markF (s / 2 ^ 16 % 256) 8 0).length = a1 at *
 generalize (markF (s / 2 ^ 8 % 256) 8 0).length = a2 at *
 generalize (markF (s % 256) 8 0).length = a3 at *
 rw [wrap8 (by omega),wrapI _ (by simp;omega) (by simp;omega),e]
end Go.RgP
set_option maxRecDepth 100000
set_option maxHeartbeats 4000000
namespace Go.RgP
open Go Go.Sp Go.RgIM
theorem fewer {s t:Nat} (hs:s < 4294967296) (hle:∀ q,t.testBit q = true→s.testBit q = true) (ht:t < s):(marksN 32 t).length < (marksN 32 s).length:=by
 have ht32:t < 4294967296:=by omega
 have e:marksN 32 t = (marksN 32 s).filter fun x=>t.testBit x:=by
  refine sorted_ext (marks_sorted ht32) (List.Pairwise.sublist List.filter_sublist (marks_sorted hs)) fun x=>?_
  rw [mem_marks ht32,List.mem_filter,mem_marks hs]
  exact ⟨fun h=>⟨⟨h.1,hle x h.2⟩,h.2⟩,fun h=>⟨h.1.1,h.2⟩⟩
 rw [e]
 have hle2:=List.filter_sublist (p:=fun x=>t.testBit x) (l:=marksN 32 s)
 refine Nat.lt_of_le_of_ne hle2.length_le fun he=>?_
 have:=hle2.eq_of_length he
 rw [←e] at this
 have h2:∀ q,q < 32→t.testBit q = s.testBit q:=fun q hq=>by
  have hm:q ∈ marksN 32 t↔q ∈ marksN 32 s:=by rw [this]
  rw [mem_marks ht32,mem_marks hs] at hm
  rw [Bool.eq_iff_iff]
  exact ⟨fun h=>(hm.1 ⟨hq,h⟩).2,fun h=>(hm.2 ⟨hq,h⟩).2⟩
 have:=set_ext (n:=32) (a:=t) (b:=s) ht32 hs h2
 omega
theorem stamp_loop (k : Nat) {n : Nat} (hn : n ≤ 21) : ∀ (w s : Nat), s < 2 ^ n → (marksN 32 s).length < w → ∃ t, l46_1 (puN (k + 1)) L w (Int.ofNat n) (Int.ofNat s) = some (tup2 (IV (Int.ofNat n)) (U t)) ∧ t < 2 ^ n ∧ (marksN 32 t).length ≤ 6
 | 0,_,_,h=>by omega
 | w + 1, s, hs, hw => by
  have hs32:=lt32 (by omega) hs
  have hb:l46_1 (puN (k + 1)) L (w + 1) (Int.ofNat n) (Int.ofNat s) = bb (Nat.blt 6 (marksN 32 s).length) (l46_1 (puN (k + 1)) L w (Int.ofNat n) (aand .u32 (Int.ofNat s) (wrapF .u32 (Int.sub (Int.ofNat s) (1:Int))))) (some (tup2 (IV (Int.ofNat n)) (U s))):=by
   show b46_1 (puN (k + 1)) L (l46_1 (puN (k + 1)) L w) (Int.ofNat n) (Int.ofNat s) = _
   unfold b46_1
   show oo (puN (k + 1) 50 [U s]) none _ = _
   rw [pu_ones k hs32,oo_some]
   show bb (ilt (Int.ofNat 6) (Int.ofNat (marksN 32 s).length)) _ _ = _
   rw [ilt_nat];rfl
  rw [hb]
  cases hc:Nat.blt 6 (marksN 32 s).length with
  | false =>
   rw [blt_eq] at hc
   exact ⟨s,rfl,hs,by simpa using hc⟩
  | true =>
   rw [blt_eq] at hc
   have hc:6 < (marksN 32 s).length:=by simpa using hc
   have hs0:0 < s:=by
    rcases Nat.eq_zero_or_pos s with h | h
    ·exfalso
     have:∀ x,x ∉ marksN 32 s:=fun x hx=>by
      have:=((mem_marks hs32).1 hx).2
      rw [h] at this;simp at this
     have:marksN 32 s = []:=List.eq_nil_iff_forall_not_mem.2 this
     rw [this] at hc;simp at hc
    ·exact h
   have hle:s &&& (s - 1)≤s - 1:=Nat.and_le_right
   have e:wrapF .u32 (Int.sub (Int.ofNat s) (1:Int)) = Int.ofNat (s - 1):=by
    rw [show Int.sub (Int.ofNat s) (1:Int) = Int.ofNat (s - 1) from by show (s:Int) - 1 = ((s - 1:Nat):Int);omega]
    exact wrap32 (by omega)
   rw [bb_true,e,aand32 hs32 (by omega)]
   have hf:=fewer (t:=s &&& (s - 1)) hs32 (fun q h=>by rw [Nat.testBit_and] at h;exact (Bool.and_eq_true _ _ ▸ h).1) (by omega)
   exact stamp_loop k hn w (s &&& (s - 1)) (by omega) (by omega)
theorem p46 (k:Nat) (args:List Value):puN (k + 1) 46 args = m46 (puN k) L args:=by kernel_rfl
theorem pu_stamp (k : Nat) {most p b : Nat} (hm0 : 0 < most) (hm : most ≤ 21) (hp : p < 256) (hb : b < 4294967296) : ∃ l, Good (1 + p % most) l ∧
 puN (k + 2) 46 [.agg ⟨[.int .u8 (Int.ofNat p),.int .u32 (Int.ofNat b)]⟩,IV (Int.ofNat most)] = some (tup2 (IV (Int.ofNat (1 + p % most))) (U (bitsOf l))):=by
 have hmod:p % most < most:=Nat.mod_lt _ hm0
 have h2n:2 ^ (1 + p % most) < 4294967296:=Nat.lt_of_le_of_lt (Nat.pow_le_pow_right (by omega) (show 1 + p % most≤21 by omega)) (by decide)
 have hpos:=Nat.two_pow_pos (1 + p % most)
 have hlt:b &&& (2 ^ (1 + p % most) - 1) < 2 ^ (1 + p % most):=by rw [Nat.and_two_pow_sub_one_eq_mod];exact Nat.mod_lt _ hpos
 have hlen:(marksN 32 (b &&& (2 ^ (1 + p % most) - 1))).length≤32:=marks_len
 obtain ⟨t,h1,h2,h3⟩:=stamp_loop k (n:=1 + p % most) (by omega) L (b &&& (2 ^ (1 + p % most) - 1)) hlt (by show _ < 1000000;omega)
 have ht32:=lt32 (n:=1 + p % most) (by omega) h2
 refine ⟨marksN (1 + p % most) t,⟨by omega,by omega,?_,marks_sorted ht32,fun x hx=>((mem_marks ht32).1 hx).1⟩,?_⟩
 ·rw [←marks_more (m:=32) ht32 h2 (by omega)];exact h3
 ·rw [bitsOf_marks (by omega) h2, p46]
  show m46_ (puN (k + 1)) L (Int.ofNat p) (Int.ofNat b) (Int.ofNat most) = _
  unfold m46_
  have e0:ieq (Int.ofNat most) 0 = false:=by rw [show (0:Int) = Int.ofNat 0 from rfl,ieq_nat];exact beq_ne (by omega)
  have e1:wrapF .i64 (Int.add (1:Int) (Int.tmod (wrapF .i64 (Int.ofNat p)) (Int.ofNat most))) = Int.ofNat (1 + p % most):=by
   rw [wrapI (Int.ofNat p) (by show (-9223372036854775808:Int)≤(p:Int);omega) (by show (p:Int)≤9223372036854775807;omega)]
   show wrapF .i64 ((1:Int) + Int.tmod (p:Int) (most:Int)) = (((1 + p % most:Nat)):Int)
   rw [Int.tmod_eq_emod_of_nonneg (by omega),←Int.natCast_emod,wrapI _ (by omega) (by omega)];omega
  rw [e0,show nt false = true from rfl,bb_true,e1]
  show oo (toN (Int.ofNat (1 + p % most))) none _ = _
  rw [show ∀ j,toN (Int.ofNat j) = some j from fun _=>rfl,oo_some,shl32 (by omega)]
  have e2:wrapF .u32 (Int.sub (Int.ofNat (2 ^ (1 + p % most))) (1:Int)) = Int.ofNat (2 ^ (1 + p % most) - 1):=by
   rw [show Int.sub (Int.ofNat (2 ^ (1 + p % most))) (1:Int) = Int.ofNat (2 ^ (1 + p % most) - 1) from by show ((2 ^ (1 + p % most):Nat):Int) - 1 = ((2 ^ (1 + p % most) - 1:Nat):Int);omega]
   exact wrap32 (by omega)
  rw [e2,aand32 hb (by omega),h1]
end Go.RgP
set_option maxRecDepth 100000
set_option maxHeartbeats 4000000
namespace Go.RgP
open Go Go.Sp Go.RgIM
noncomputable def rotB (pu:PureF) (ih:Bool→Option Value) (a b Y:Sl):Option Value:=
 bb (roomy (0 + Sl.n a) 8) (bb (Nat.beq (Sl.n b) 0) (bb (an (Nat.ble (0 + Sl.n a * 1) (len (takeL (Sl.n a * 1) (Sl.cs a)))) (allL closed1 (takeL (Sl.n a * 1) (dropL 0 (takeL (Sl.n a * 1) (Sl.cs a)))))) (oo (pu 10230 [Sl.v 1 (Sl.mk (Sl.n a) 0 (takeL (Sl.n a * 1) (dropL 0 (takeL (Sl.n a * 1) (Sl.cs a))))), Sl.v 1 Y]) none fun v => oo (vTup v) none fun l => ll l none fun v l => ll l (oo (vBool v) none fun b => ih b) fun _ _ => none) none)
  (bb (an (allL scalarB (takeL (Sl.n b * 1) (Sl.cs b))) (growC 1 8 (Sl.n a) (2 * Sl.n a + bb false 1 0) (Sl.n b) (takeL (Sl.n a * 1) (Sl.cs a)))) (bb (an (Nat.ble (0 + (Sl.n a + Sl.n b) * 1) (len (appL (dropL 0 (takeL (Sl.n a * 1) (Sl.cs a))) (takeL (Sl.n b * 1) (Sl.cs b))))) (allL closed1 (takeL ((Sl.n a + Sl.n b) * 1) (dropL 0 (appL (dropL 0 (takeL (Sl.n a * 1) (Sl.cs a))) (takeL (Sl.n b * 1) (Sl.cs b)))))))
    (oo (pu 10230 [Sl.v 1 (Sl.mk (Sl.n a + Sl.n b) 0 (takeL ((Sl.n a + Sl.n b) * 1) (dropL 0 (appL (dropL 0 (takeL (Sl.n a * 1) (Sl.cs a))) (takeL (Sl.n b * 1) (Sl.cs b)))))),Sl.v 1 Y]) none fun v=>oo (vTup v) none fun l=>ll l none fun v l=>ll l (oo (vBool v) none fun b=>ih b) fun _ _=>none) none) none)) none
theorem take_vL (g:List Nat):takeL (g.length * 1) (vL g) = vL g:=by rw [takeL_eq,Nat.mul_one,←vL_len g,List.take_length]
theorem vL_scalar : ∀ l : List Nat, allL scalarB (vL l) = true
 | []=>rfl
 | _ :: l=>vL_scalar l
theorem vL_app (g h:List Nat):appL (vL g) (vL h) = vL (g ++ h):=by rw [appL_eq];unfold vL;rw [List.map_append]
theorem rotB_eq (pu:PureF) (ih:Bool→Option Value) (fa fb:Nat) {g h:List Nat} (Y:Sl) (hg:g.length≤1000) (hbig:h.length≤1000) {r:Bool} (hpu:pu 10230 [slv (g ++ h),Sl.v 1 Y] = some (.tuple ⟨[.bool r]⟩)):rotB pu ih ⟨g.length,fa,vL g⟩ ⟨h.length,fb,vL h⟩ Y = ih r:=by
 have hroom:∀ k,k≤2000→roomy k 8 = true:=fun k hk=>Nat.ble_eq_true_of_le (by omega)
 unfold rotB
 show bb (roomy (0 + g.length) 8) (bb (Nat.beq h.length 0) (bb (an (Nat.ble (0 + g.length * 1) (len (takeL (g.length * 1) (vL g)))) (allL closed1 (takeL (g.length * 1) (dropL 0 (takeL (g.length * 1) (vL g)))))) (oo (pu 10230 [Sl.v 1 (Sl.mk g.length 0 (takeL (g.length * 1) (dropL 0 (takeL (g.length * 1) (vL g))))), Sl.v 1 Y]) none fun v => oo (vTup v) none fun l => ll l none fun v l => ll l (oo (vBool v) none fun b => ih b) fun _ _ => none) none)
  (bb (an (allL scalarB (takeL (h.length * 1) (vL h))) (growC 1 8 g.length (2 * g.length + bb false 1 0) h.length (takeL (g.length * 1) (vL g)))) (bb (an (Nat.ble (0 + (g.length + h.length) * 1) (len (appL (dropL 0 (takeL (g.length * 1) (vL g))) (takeL (h.length * 1) (vL h))))) (allL closed1 (takeL ((g.length + h.length) * 1) (dropL 0 (appL (dropL 0 (takeL (g.length * 1) (vL g))) (takeL (h.length * 1) (vL h)))))))
    (oo (pu 10230 [Sl.v 1 (Sl.mk (g.length + h.length) 0 (takeL ((g.length + h.length) * 1) (dropL 0 (appL (dropL 0 (takeL (g.length * 1) (vL g))) (takeL (h.length * 1) (vL h)))))),Sl.v 1 Y]) none fun v=>oo (vTup v) none fun l=>ll l none fun v l=>ll l (oo (vBool v) none fun b=>ih b) fun _ _=>none) none) none)) none = _
 have d0:∀ l:List Nat,dropL 0 (vL l) = vL l:=fun l=>by rw [dropL_eq,List.drop_zero]
 have hle:∀ l:List Nat,Nat.ble (0 + l.length * 1) (len (vL l)) = true:=fun l=>by rw [len_eq,vL_len];exact Nat.ble_eq_true_of_le (by omega)
 rw [hroom _ (by omega),bb_true,take_vL,take_vL,d0,take_vL,vL_app,←List.length_append,d0,take_vL,vL_closed,vL_closed,vL_scalar,hle,hle]
 cases hz:Nat.beq h.length 0 with
 | true =>
  have e:=Nat.eq_of_beq_eq_true hz
  obtain rfl:h = []:=List.eq_nil_of_length_eq_zero e
  rw [List.append_nil] at hpu
  show oo (pu 10230 [slv g,Sl.v 1 Y]) none _ = _
  rw [hpu];rfl
 | false =>
  have hz:=Nat.ne_of_beq_eq_false hz
  have hgr:∀ k,k = h.length→k≤1000→growC 1 8 g.length (2 * g.length + bb false 1 0) k (vL g) = true:=fun k hk hk2=>by
   unfold growC
   have e1:(2 * g.length + bb false 1 0) / 2 = g.length:=by show (2 * g.length + 0) / 2 = _;omega
   have e2:(2 * g.length + bb false 1 0) % 2 = 0:=by show (2 * g.length + 0) % 2 = _;omega
   rw [hroom _ (by omega),e1,e2,len_eq,vL_len,show Nat.ble (g.length + k) g.length = false from by rw [ble_eq];simp;omega,show Nat.ble (0 + g.length * 1) g.length = true from Nat.ble_eq_true_of_le (by omega),show Nat.beq (0 + g.length * 1) g.length = true from by simp]
   rfl
  rw [hgr _ rfl hbig]
  show oo (pu 10230 [slv (g ++ h),Sl.v 1 Y]) none _ = _
  rw [hpu];rfl
theorem an_nat (pu : PureF) (L : Nat) (turned : Bool) (found : Int) {n : Nat} {l l' : List Nat} (h : Good n l) (h' : Good n l') (h23 : ∀ a b : List Nat, a.length < 900000 → pu 10230 [slv a, slv b] = some (.tuple ⟨[.bool (decide (a = b))]⟩)) : ∀ (j w i : Nat) (b : Bool), i + j = l.length → j < w →
 l11_10 pu L w turned found ⟨(gapsL n l).length,0,vL (gapsL n l)⟩ ⟨(gapsL n l').length,0,vL (gapsL n l')⟩ b (Int.ofNat l.length) (Int.ofNat i) = m11_8 pu L turned found (b || (List.range' i j).any fun i=>decide (rotL i (gapsL n l) = gapsL n l'))
 | _,0,_,_,_,h=>by omega
 | 0, w + 1, i, b, hi, _ => by
  show b11_10 pu L (l11_10 pu L w) turned found ⟨(gapsL n l).length,0,vL (gapsL n l)⟩ ⟨(gapsL n l').length,0,vL (gapsL n l')⟩ b (Int.ofNat l.length) (Int.ofNat i) = _
  unfold b11_10
  rw [ilt_nat,show Nat.blt i l.length = false from by rw [blt_eq];simp;omega,bb_false,List.range'_zero,List.any_nil,Bool.or_false]
 | j + 1, w + 1, i, b, hi, hw => by
  show b11_10 pu L (l11_10 pu L w) turned found ⟨(gapsL n l).length,0,vL (gapsL n l)⟩ ⟨(gapsL n l').length,0,vL (gapsL n l')⟩ b (Int.ofNat l.length) (Int.ofNat i) = _
  have hfew:=h.few
  have ih:=fun b=>an_nat pu L turned found h h' h23 j w (i + 1) b (by omega) (by omega)
  have hlt:Nat.blt i l.length = true:=by rw [blt_eq];simp;omega
  rw [List.range'_succ,List.any_cons]
  cases b with
  | true =>
   unfold b11_10
   rw [ilt_nat,hlt,bb_true,bb_true,wrapS i (by omega),ih];rfl
  | false =>
   have hgl:=gapsL_len n l
   have hle:Nat.ble i (gapsL n l).length = true:=Nat.ble_eq_true_of_le (by omega)
   have e1:takeL (((gapsL n l).length - i) * 1) (dropL (i * 1) (vL (gapsL n l))) = vL ((gapsL n l).drop i):=by
    rw [takeL_eq,dropL_eq,Nat.mul_one,Nat.mul_one];unfold vL
    rw [←List.map_drop,←List.map_take,List.take_of_length_le (by simp)]
   have e2:takeL ((i - 0) * 1) (dropL (0 * 1) (vL (gapsL n l))) = vL ((gapsL n l).take i):=by
    rw [takeL_eq,dropL_eq,Nat.mul_one,Nat.zero_mul,List.drop_zero,Nat.sub_zero];unfold vL
    rw [←List.map_take]
   have key : b11_10 pu L (l11_10 pu L w) turned found ⟨(gapsL n l).length, 0, vL (gapsL n l)⟩ ⟨(gapsL n l').length, 0, vL (gapsL n l')⟩ false (Int.ofNat l.length) (Int.ofNat i) = bb (ilt (Int.ofNat i) (Int.ofNat l.length)) (bb (Nat.ble i (gapsL n l).length) (bb (Nat.ble i (gapsL n l).length)
    (rotB pu (fun b => l11_10 pu L w turned found ⟨(gapsL n l).length, 0, vL (gapsL n l)⟩ ⟨(gapsL n l').length, 0, vL (gapsL n l')⟩ b (Int.ofNat l.length) (wrapF .i64 (Int.add (Int.ofNat i) (1 : Int))))
      ⟨(gapsL n l).length - i,bb (an (Nat.beq (gapsL n l).length (gapsL n l).length) (orr false (Nat.beq 0 1))) 1 0,takeL (((gapsL n l).length - i) * 1) (dropL (i * 1) (vL (gapsL n l)))⟩
      ⟨i - 0,bb (an (Nat.beq i (gapsL n l).length) (orr false (Nat.beq 0 1))) 1 0,takeL ((i - 0) * 1) (dropL (0 * 1) (vL (gapsL n l)))⟩ ⟨(gapsL n l').length,0,vL (gapsL n l')⟩) none) none) (m11_8 pu L turned found false):=rfl
   have d1:(gapsL n l).length - i = ((gapsL n l).drop i).length:=by simp
   have d2:i - 0 = ((gapsL n l).take i).length:=by simp;omega
   rw [key,ilt_nat,hlt,bb_true,hle,bb_true,bb_true,e1,e2,d1,d2,rotB_eq pu _ _ _ _ (by simp;omega) (by simp;omega) (h23 _ _ (by simp;omega)),wrapS i (by omega),ih];rfl
end Go.RgP
set_option maxRecDepth 100000
set_option maxHeartbeats 4000000
namespace Go.RgP
open Go Go.Sp Go.RgIM
theorem bq_self (b:Bool):bq b b = true:=by cases b <;> rfl
theorem span_loop (pu : PureF) (L : Nat) (ih0 : Int → Int → Bool → Int → Sl → Sl → Int → Sl → Int → Int → Option Value) {n : Nat} {l : List Nat} (h : Good n l) {i m : Nat} (hi : l[i]? = some m) (turned : Bool) (found : Int) (X Y : Sl) (sum : Int) (sl : Sl) (ln iz : Int) : ∀ (j w k : Nat), k + j = gapAt n l i + 1 → j < w → 0 < k →
 l11_14 pu L ih0 w (Int.ofNat n) (Int.ofNat (bitsOf l)) turned found X Y sum (Int.ofNat (gapAt n l i)) (Int.ofNat m) (Int.ofNat k) sl ln iz = m11_12 pu L ih0 (Int.ofNat n) (Int.ofNat (bitsOf l)) turned found X Y sum sl ln iz
 | _,0,_,_,h,_=>by omega
 | 0, w + 1, k, hk, _, _ => by
  show b11_14 pu L ih0 (l11_14 pu L ih0 w) (Int.ofNat n) (Int.ofNat (bitsOf l)) turned found X Y sum (Int.ofNat (gapAt n l i)) (Int.ofNat m) (Int.ofNat k) sl ln iz = _
  unfold b11_14
  rw [ilt_nat,show Nat.blt (gapAt n l i) k = true from by rw [blt_eq];simp;omega];rfl
 | j + 1, w + 1, k, hk, hw, hk0 => by
  show b11_14 pu L ih0 (l11_14 pu L ih0 w) (Int.ofNat n) (Int.ofNat (bitsOf l)) turned found X Y sum (Int.ofNat (gapAt n l i)) (Int.ofNat m) (Int.ofNat k) sl ln iz = _
  have hn0:=h.pos
  have hn:=h.le
  have hm:=h.lt m (List.mem_of_getElem? hi)
  obtain ⟨g1,g2,_⟩:=gap_spec h hi
  have hne:ieq (Int.ofNat n) 0 = false:=by rw [show (0:Int) = Int.ofNat 0 from rfl,ieq_nat];exact beq_ne (by omega)
  have e2:Int.tmod (wrapF .i64 (Int.add (Int.ofNat m) (Int.ofNat k))) (Int.ofNat n) = Int.ofNat ((m + k) % n):=by
   show Int.tmod (wrapF .i64 ((m:Int) + (k:Int))) (n:Int) = _
   rw [wrapI _ (by omega) (by omega),Int.tmod_eq_emod_of_nonneg (by omega),←Int.natCast_add,←Int.natCast_emod];rfl
  have ih:=span_loop pu L ih0 h hi turned found X Y sum sl ln iz j w (k + 1) (by omega) (by omega) (by omega)
  unfold b11_14
  rw [ilt_nat,show Nat.blt (gapAt n l i) k = false from by rw [blt_eq];simp;omega,show nt false = true from rfl,bb_true,hne,show nt false = true from rfl,bb_true,e2,show ∀ j,toN (Int.ofNat j) = some j from fun _=>rfl,oo_some]
  show bb (bq false (bq (hasB (bitsOf l) ((m + k) % n)) (ieq (Int.ofNat k) (Int.ofNat (gapAt n l i))))) _ _ = _
  rw [hasB_eq h.lt32,gap_bit h hi hk0 (by omega),ieq_nat,beq_dec,bq_self,wrapS k (by omega),ih];rfl
theorem gaps_walk (pu : PureF) (L : Nat) (hL : 100 < L) {n : Nat} {l : List Nat} (h : Good n l) (turned : Bool) (found : Int) (Y : Sl) (h48 : pu 48 [U (bitsOf l)] = some (slv l)) {v : Option Value}
 (hfin:m11_7 pu L (Int.ofNat n) turned found ⟨(gapsL n l).length,0,vL (gapsL n l)⟩ Y (Int.ofNat n) = v):∀ (r:List Nat) (w i sum:Nat),(gapsL n l).drop i = r→r.length < w→sum + r.sum = n →
 l11_11 pu L w (Int.ofNat n) (Int.ofNat (bitsOf l)) turned found ⟨(gapsL n l).length,0,vL (gapsL n l)⟩ Y (Int.ofNat sum) ⟨(gapsL n l).length,0,vL (gapsL n l)⟩ (Int.ofNat (gapsL n l).length) (Int.ofNat i) = v
 | _,0,_,_,_,h,_=>by omega
 | [], w + 1, i, sum, hd, _, hs => by
  show b11_11 pu L (l11_11 pu L w) (Int.ofNat n) (Int.ofNat (bitsOf l)) turned found ⟨(gapsL n l).length,0,vL (gapsL n l)⟩ Y (Int.ofNat sum) ⟨(gapsL n l).length,0,vL (gapsL n l)⟩ (Int.ofNat (gapsL n l).length) (Int.ofNat i) = _
  have h1:(gapsL n l).length≤i:=List.drop_eq_nil_iff.1 hd
  have hs:sum = n:=by simpa using hs
  unfold b11_11
  rw [ilt_nat,show Nat.blt i (gapsL n l).length = false from by rw [blt_eq];simp;omega,bb_false,hs];exact hfin
 | d :: r, w + 1, i, sum, hd, hw, hs => by
  show b11_11 pu L (l11_11 pu L w) (Int.ofNat n) (Int.ofNat (bitsOf l)) turned found ⟨(gapsL n l).length,0,vL (gapsL n l)⟩ Y (Int.ofNat sum) ⟨(gapsL n l).length,0,vL (gapsL n l)⟩ (Int.ofNat (gapsL n l).length) (Int.ofNat i) = _
  obtain ⟨hd2,hi2,_⟩:=drop_next hd
  have hgl:=gapsL_len n l
  have hil:i < l.length:=by omega
  have hn:=h.le
  have hn0:=h.pos
  have hfew:=h.few
  obtain ⟨m,hm⟩:∃ m,l[i]? = some m:=⟨l[i],by simp [hil]⟩
  have hdv:d = gapAt n l i:=by
   have:=congrArg List.head? hd
   rw [List.head?_drop,gapsL_get hil] at this
   injection this with this;exact this.symm
  obtain ⟨g1,g2,_⟩:=gap_spec h hm
  rw [←hdv] at g1 g2
  have hr:(d :: r).length = r.length + 1:=rfl
  have hlt:Nat.blt i (gapsL n l).length = true:=by rw [blt_eq];simp;omega
  have hlt2:Nat.blt i l.length = true:=by rw [blt_eq];simpa using hil
  have hs':sum + d + r.sum = n:=by rw [←hs,List.sum_cons];omega
  have ih:=gaps_walk pu L hL h turned found Y h48 hfin r w (i + 1) (sum + d) hd2 (by omega) hs'
  have hmg:nthL (vL l) (i * 1) = some (IV (Int.ofNat m)):=by
   rw [nthL_eq,Nat.mul_one];unfold vL
   rw [List.getElem?_map,hm];rfl
  have hsumw:wrapF .i64 (Int.add (Int.ofNat sum) (Int.ofNat d)) = Int.ofNat (sum + d):=by
   show wrapF .i64 ((sum:Int) + (d:Int)) = ((sum + d:Nat):Int)
   rw [wrapI _ (by omega) (by omega)];omega
  have ck:=span_loop pu L (l11_11 pu L w) h hm turned found ⟨(gapsL n l).length,0,vL (gapsL n l)⟩ Y (Int.ofNat (sum + d)) ⟨(gapsL n l).length,0,vL (gapsL n l)⟩ (Int.ofNat (gapsL n l).length) (Int.ofNat i) d L 1 (by omega) (by omega) (by omega)
  rw [←hdv] at ck
  have e12:m11_12 pu L (l11_11 pu L w) (Int.ofNat n) (Int.ofNat (bitsOf l)) turned found ⟨(gapsL n l).length,0,vL (gapsL n l)⟩ Y (Int.ofNat (sum + d)) ⟨(gapsL n l).length,0,vL (gapsL n l)⟩ (Int.ofNat (gapsL n l).length) (Int.ofNat i) = v:=by
   show l11_11 pu L w (Int.ofNat n) (Int.ofNat (bitsOf l)) turned found ⟨(gapsL n l).length,0,vL (gapsL n l)⟩ Y (Int.ofNat (sum + d)) ⟨(gapsL n l).length,0,vL (gapsL n l)⟩ (Int.ofNat (gapsL n l).length) (wrapF .i64 (Int.add (Int.ofNat i) (1:Int))) = v
   rw [wrapS i (by omega)];exact ih
  unfold b11_11
  rw [ilt_nat,hlt,bb_true,show toN (Int.ofNat i) = some i from rfl,oo_some]
  show bb (an (Nat.blt i (gapsL n l).length) true) (oo (nthL (vL (gapsL n l)) (i * 1)) none _) none = _
  rw [hlt,show an true true = true from rfl,bb_true,vL_get hd,oo_some,show ∀ z,toI .i64 (IV z) = some z from fun _=>rfl,oo_some,show ilt (Int.ofNat d) (1:Int) = Nat.blt d 1 from ilt_nat d 1,show Nat.blt d 1 = false from by rw [blt_eq];simp;omega,bb_false,ilt_nat,show Nat.blt n d = false from by rw [blt_eq];simp;omega]
  unfold m11_13
  rw [bb_false]
  show oo (pu 48 [U (bitsOf l)]) none _ = _
  rw [h48,oo_some]
  show bb (an (Nat.blt i l.length) true) (oo (nthL (vL l) (i * 1)) none _) none = _
  rw [hlt2,show an true true = true from rfl,bb_true,hmg,oo_some,show ∀ z,toI .i64 (IV z) = some z from fun _=>rfl,oo_some,hsumw]
  exact ck.trans e12
noncomputable def wT (st:Option (Nat×Bool)):Int:=oo st 0 fun p=>Int.ofNat p.1
noncomputable def tT (st:Option (Nat×Bool)):Bool:=oo st false fun p=>p.2
noncomputable def fT (st:Option (Nat×Bool)):Int:=oo st 12 fun _=>0
noncomputable def hitT (n sm o j:Nat) (neg:Bool) (st:Option (Nat×Bool)):Option (Nat×Bool):=oo ((List.range j).find? fun b=>Nat.beq (turnN n sm b) o) st fun b=>some (b,neg)
theorem hit_succ (n sm o j:Nat) (neg:Bool) (st:Option (Nat×Bool)):hitT n sm o (j + 1) neg st = hitT n sm o j neg (bif Nat.beq (turnN n sm j) o then some (j,neg) else st):=by
 unfold hitT
 rw [List.range_succ,List.find?_append]
 cases (List.range j).find? fun b=>Nat.beq (turnN n sm b) o with
 | some b=>rfl
 | none =>
  rw [Option.none_or]
  cases hc:Nat.beq (turnN n sm j) o with
  | true=>rw [List.find?_cons_of_pos (p:=fun b=>Nat.beq (turnN n sm b) o) hc];rfl
  | false=>rw [List.find?_cons_of_neg (p:=fun b=>Nat.beq (turnN n sm b) o) (by rw [hc];simp)];rfl
theorem turn_inner (pu : PureF) (L : Nat) (ih0 : Int → Int → Int → Int → Bool → Int → Int → Bool → Int → Nat → Nat → Int → Int → Int → Sl → Int → Sl → List Value → Option Value) {n s o sm : Nat} (hn : n ≤ 21) (a : Int) (b : Bool) (c m : Int)
 (h49:∀ t,t < n→pu 49 [IV (Int.ofNat n),U s,IV m,IV (Int.ofNat t)] = some (U (turnN n sm t))) (iz x1:Int) (s1:Sl) (x2:Int) (s2:Sl) {q:List Value} (hq:allL closed1 q = true):∀ (j w:Nat) (z:Int) (st:Option (Nat×Bool)),z = (j:Int) - 1→j≤n→j < w →
 l11_17 pu L ih0 w (Int.ofNat n) (Int.ofNat s) (Int.ofNat o) a b c (wT st) (tT st) (fT st) m z 2 5 2 iz x1 s1 x2 s2 q = m11_16 pu L ih0 (Int.ofNat n) (Int.ofNat s) (Int.ofNat o) a b c (wT (hitT n sm o j (ilt m 0) st)) (tT (hitT n sm o j (ilt m 0) st)) (fT (hitT n sm o j (ilt m 0) st)) 2 5 2 iz x1 s1 x2 s2 q
 | _,0,_,_,_,_,h=>by omega
 | 0, w + 1, z, st, hz, _, _ => by
  subst hz
  show b11_17 pu L ih0 (l11_17 pu L ih0 w) (Int.ofNat n) (Int.ofNat s) (Int.ofNat o) a b c (wT st) (tT st) (fT st) m (((0:Nat):Int) - 1) 2 5 2 iz x1 s1 x2 s2 q = _
  unfold b11_17
  rw [hq,bb_true,show ilt (((0:Nat):Int) - 1) 0 = true from by rfl];rfl
 | j + 1, w + 1, z, st, hz, hj, hw => by
  obtain rfl:z = Int.ofNat j:=by rw [hz];show ((j + 1:Nat):Int) - 1 = (j:Int);omega
  show b11_17 pu L ih0 (l11_17 pu L ih0 w) (Int.ofNat n) (Int.ofNat s) (Int.ofNat o) a b c (wT st) (tT st) (fT st) m (Int.ofNat j) 2 5 2 iz x1 s1 x2 s2 q = _
  have ih:=fun st=>turn_inner pu L ih0 (o:=o) hn a b c m h49 iz x1 s1 x2 s2 hq j w ((j:Int) - 1) st rfl (by omega) (by omega)
  have hw1:wrapF .i64 (Int.sub (Int.ofNat j) (1:Int)) = (j:Int) - 1:=wrapI ((j:Int) - 1) (by omega) (by omega)
  have e18:∀ st,m11_18 pu L ih0 (l11_17 pu L ih0 w) (Int.ofNat n) (Int.ofNat s) (Int.ofNat o) a b c (wT st) (tT st) (fT st) m (Int.ofNat j) 2 5 2 iz x1 s1 x2 s2 q = m11_16 pu L ih0 (Int.ofNat n) (Int.ofNat s) (Int.ofNat o) a b c (wT (hitT n sm o j (ilt m 0) st)) (tT (hitT n sm o j (ilt m 0) st)) (fT (hitT n sm o j (ilt m 0) st)) 2 5 2 iz x1 s1 x2 s2 q:=fun st=>by
   unfold m11_18
   rw [hq,bb_true,hw1];exact ih st
  unfold b11_17
  rw [hq,bb_true,show ilt (Int.ofNat j) 0 = false from by rw [show (0:Int) = Int.ofNat 0 from rfl,ilt_nat,blt_eq];simp,show nt false = true from rfl,bb_true]
  show oo (pu 49 [IV (Int.ofNat n),U s,IV m,IV (Int.ofNat j)]) none _ = _
  rw [h49 j (by omega),oo_some,show ∀ z,toI .u32 (U z) = some (Int.ofNat z) from fun _=>rfl,oo_some,ieq_nat,hit_succ]
  cases Nat.beq (turnN n sm j) o with
  | true=>exact e18 (some (j,ilt m 0))
  | false=>exact e18 st
theorem turn_outer (pu : PureF) (L w : Nat) (hL : 30 < L) {n s o : Nat} (hn0 : 0 < n) (hn : n ≤ 21) (a : Int) (b : Bool) (c : Int) {sm : Nat} (h49 : ∀ t, t < n → pu 49 [IV (Int.ofNat n), U s, IV 1, IV (Int.ofNat t)] = some (U (turnN n s t)))
 (h49m:∀ t,t < n→pu 49 [IV (Int.ofNat n),U s,IV (-1),IV (Int.ofNat t)] = some (U (turnN n sm t))) (x1:Int) (s1:Sl) (x2:Int) (s2:Sl) :
 l11_15 pu L (w + 3) (Int.ofNat n) (Int.ofNat s) (Int.ofNat o) a b c (wT none) (tT none) (fT none) 2 5 2 0 x1 s1 x2 s2 [IV (-1),IV 1] = m11_1 pu L (Int.ofNat n) (Int.ofNat s) (Int.ofNat o) a b c (wT (hitT n s o n false (hitT n sm o n true none))) (tT (hitT n s o n false (hitT n sm o n true none))) (fT (hitT n s o n false (hitT n sm o n true none))) x1 s1 x2 s2:=by
 have hw1:wrapF .i64 (Int.sub (Int.ofNat n) (1:Int)) = (n:Int) - 1:=wrapI ((n:Int) - 1) (by omega) (by omega)
 have i1:=fun ih0 iz=>turn_inner pu L ih0 (o:=o) hn a b c (-1) h49m iz x1 s1 x2 s2 (q:=[IV (-1),IV 1]) rfl n L ((n:Int) - 1) none rfl (Nat.le_refl n) (by omega)
 have i2:=fun ih0 iz st=>turn_inner pu L ih0 (o:=o) hn a b c 1 h49 iz x1 s1 x2 s2 (q:=[IV (-1),IV 1]) rfl n L ((n:Int) - 1) st rfl (Nat.le_refl n) (by omega)
 show l11_17 pu L (l11_15 pu L (w + 2)) L (Int.ofNat n) (Int.ofNat s) (Int.ofNat o) a b c (wT none) (tT none) (fT none) (-1) (wrapF .i64 (Int.sub (Int.ofNat n) (1:Int))) 2 5 2 0 x1 s1 x2 s2 [IV (-1),IV 1] = _
 rw [hw1,i1]
 show l11_17 pu L (l11_15 pu L (w + 1)) L (Int.ofNat n) (Int.ofNat s) (Int.ofNat o) a b c (wT (hitT n sm o n true none)) (tT (hitT n sm o n true none)) (fT (hitT n sm o n true none)) 1 (wrapF .i64 (Int.sub (Int.ofNat n) (1:Int))) 2 5 2 1 x1 s1 x2 s2 [IV (-1),IV 1] = _
 rw [hw1,i2]
 rfl
end Go.RgP
set_option maxRecDepth 100000
set_option maxHeartbeats 4000000
namespace Go.RgP
open Go Go.Sp Go.RgIM
theorem marks48_loop (pu : PureF) (L s : Nat) : ∀ (k w p c : Nat) (q : List Nat), k < w → p + k = 21 → q.length ≤ p → c / 2 = q.length → c % 2 = 0 →
 l48_1 pu L w (Int.ofNat s) q.length c (Int.ofNat p) (vL q) = some (slv (q ++ markF s k p))
 | k,0,_,_,_,h,_,_,_,_=>by omega
 | 0, w + 1, p, c, q, _, hk, _, _, _ => by
  show b48_1 pu L (l48_1 pu L w) (Int.ofNat s) q.length c (Int.ofNat p) (vL q) = _
  unfold b48_1
  rw [vL_closed,bb_true,show (21:Int) = Int.ofNat 21 from rfl,ilt_nat,show Nat.blt p 21 = false from by rw [blt_eq];simp;omega,bb_false]
  unfold m48_0
  rw [vL_closed,bb_true,fin_vL]
  show _ = some (slv (q ++ []))
  rw [List.append_nil]
 | k + 1, w + 1, p, c, q, hw, hk, hq, hc, hc2 => by
  show b48_1 pu L (l48_1 pu L w) (Int.ofNat s) q.length c (Int.ofNat p) (vL q) = _
  unfold b48_1
  rw [vL_closed,bb_true,show (21:Int) = Int.ofNat 21 from rfl,ilt_nat,show Nat.blt p 21 = true from by rw [blt_eq];simp;omega,bb_true]
  show bb (hasB s p) _ _ = _
  have hs:wrapF .i64 (Int.add (Int.ofNat p) 1) = Int.ofNat (p + 1):=wrapS p (by omega)
  unfold markF
  cases hasB s p with
  | false =>
   rw [bb_false]
   unfold m48_2
   rw [vL_closed,bb_true,hs]
   exact marks48_loop pu L s k w (p + 1) c q (by omega) (by omega) (by omega) hc hc2
  | true =>
   rw [bb_true,grow_vL (by omega) hc hc2,bb_true,vL_snoc,vL_closed,bb_true]
   unfold m48_2
   rw [vL_closed,bb_true,hs]
   have ih:=marks48_loop pu L s k w (p + 1) (2 * (q.length + 1) + bb false 1 0) (q ++ [p]) (by omega) (by omega) (by simp;omega) (by simp) (by simp)
   rw [List.length_append] at ih
   show l48_1 pu L w (Int.ofNat s) (q.length + 1) (2 * (q.length + 1) + bb false 1 0) (Int.ofNat (p + 1)) (vL (q ++ [p])) = _
   rw [show [p].length = 1 from rfl] at ih
   rw [ih,List.append_assoc];rfl
theorem p48 (k:Nat) (args:List Value):puN (k + 1) 48 args = m48 (puN k) L args:=by kernel_rfl
theorem pu_marks48 (k s:Nat):puN (k + 1) 48 [U s] = some (slv (marksN 21 s)):=by
 rw [p48];exact marks48_loop (puN k) L s 21 L 0 0 [] (by show 21 < 1000000;omega) rfl (by simp) rfl rfl
theorem p47 (k:Nat) (args:List Value):puN (k + 1) 47 args = m47 (puN k) L args:=by kernel_rfl
theorem pu_sealed (k n s:Nat):puN (k + 2) 47 [IV (Int.ofNat n),U s] = some (seaV n (marksN 21 s)):=by
 rw [p47]
 show oo (puN (k + 1) 48 [U s]) none _ = _
 rw [pu_marks48,oo_some];rfl
end Go.RgP
set_option maxRecDepth 100000
set_option maxHeartbeats 4000000
namespace Go.RgP
open Go Go.Sp Go.RgIM
theorem moved49_loop (pu : PureF) (L : Nat) {n : Nat} (hn0 : 0 < n) (hn : n ≤ 21) {m b : Int} (hm : -100 ≤ m) (hm2 : m ≤ 100) (hb : -100000000 ≤ b) (hb2 : b ≤ 100000000) {l : List Nat} (hl : ∀ x ∈ l, x < 32) (hl2 : l.length < 100) :
 ∀ (r:List Nat) (w i z:Nat),l.drop i = r→r.length < w→i≤l.length→z < 2 ^ n →
 l49_1 pu L w (Int.ofNat n) m b (Int.ofNat z) ⟨l.length,0,vL l⟩ (Int.ofNat l.length) (Int.ofNat i) = some (U (setOf (fun p=>plc n ((p:Int) * m + b)) r z))
 | _,0,_,_,_,h,_,_=>by omega
 | [], w + 1, i, z, hd, _, hi, _ => by
  show b49_1 pu L (l49_1 pu L w) (Int.ofNat n) m b (Int.ofNat z) ⟨l.length,0,vL l⟩ (Int.ofNat l.length) (Int.ofNat i) = _
  have:l.length≤i:=List.drop_eq_nil_iff.1 hd
  unfold b49_1
  rw [ilt_nat,show Nat.blt i l.length = false from by rw [blt_eq];simp;omega];rfl
 | p :: r, w + 1, i, z, hd, hw, hi, hz => by
  show b49_1 pu L (l49_1 pu L w) (Int.ofNat n) m b (Int.ofNat z) ⟨l.length,0,vL l⟩ (Int.ofNat l.length) (Int.ofNat i) = _
  obtain ⟨hd2,hi2,hb'⟩:=drop_next hd
  have hp:=hl p hb'
  have hr:(p :: r).length = r.length + 1:=rfl
  have hlt:Nat.blt i l.length = true:=by rw [blt_eq];simp;omega
  have hs:wrapF .i64 (Int.add (Int.ofNat i) 1) = Int.ofNat (i + 1):=wrapS i (by omega)
  have hpl:=plc_lt hn0 ((p:Int) * m + b)
  have hk:2 ^ plc n ((p:Int) * m + b) < 2 ^ n:=Nat.pow_lt_pow_right (by omega) hpl
  have hz2:z ||| 2 ^ plc n ((p:Int) * m + b) < 2 ^ n:=Nat.or_lt_two_pow hz hk
  have ih:=moved49_loop pu L hn0 hn hm hm2 hb hb2 hl hl2 r w (i + 1) _ hd2 (by omega) (by omega) hz2
  have b1:-3200≤(p:Int) * m:=by
   have:(p:Int) * (-100)≤(p:Int) * m:=Int.mul_le_mul_of_nonneg_left hm (by omega)
   omega
  have b2:(p:Int) * m≤3200:=by
   have:(p:Int) * m≤(p:Int) * 100:=Int.mul_le_mul_of_nonneg_left hm2 (by omega)
   omega
  have hne:ieq (Int.ofNat n) 0 = false:=by rw [show (0:Int) = Int.ofNat 0 from rfl,ieq_nat];exact beq_ne (by omega)
  have e1:wrapF .i64 (Int.mul (Int.ofNat p) m) = (p:Int) * m:=wrapI _ (by show _≤(p:Int) * m;omega) (by show (p:Int) * m≤_;omega)
  have e2:=rem2 hn0 (by omega) (x:=(p:Int) * m + b) (by omega) (by omega)
  unfold b49_1
  rw [ilt_nat,hlt,bb_true,show toN (Int.ofNat i) = some i from rfl,oo_some]
  show bb (an (Nat.blt i l.length) true) _ none = _
  rw [hlt,show an true true = true from rfl,bb_true]
  show oo (nthL (vL l) (i * 1)) none _ = _
  rw [vL_get hd,oo_some,show toI .i64 (IV (Int.ofNat p)) = some (Int.ofNat p) from rfl,oo_some,hne,show nt false = true from rfl,bb_true,bb_true,e1]
  show oo (toN (Int.tmod (wrapF .i64 (Int.add (Int.tmod (wrapF .i64 ((p:Int) * m + b)) (Int.ofNat n)) (Int.ofNat n))) (Int.ofNat n))) none _ = _
  rw [e2,show ∀ j,toN (Int.ofNat j) = some j from fun _=>rfl,oo_some,shl32 (by omega),aor32 (lt32 (by omega) hz) (lt32 (by omega) hk),hs,ih];rfl
theorem p49 (k:Nat) (args:List Value):puN (k + 1) 49 args = m49 (puN k) L args:=by kernel_rfl
theorem pu_moved (k : Nat) {n s : Nat} (hn0 : 0 < n) (hn : n ≤ 21) (hs : s < 2 ^ n) {m b : Int} (hm : -100 ≤ m) (hm2 : m ≤ 100) (hb : -100000000 ≤ b) (hb2 : b ≤ 100000000) :
 puN (k + 2) 49 [IV (Int.ofNat n),U s,IV m,IV b] = some (U (setOf (fun p=>plc n ((p:Int) * m + b)) (marksN n s) 0)):=by
 have hs32:=lt32 (by omega) hs
 have hl:=marks_len (n:=n) (s:=s)
 rw [p49]
 show oo (puN (k + 1) 48 [U s]) none _ = _
 rw [pu_marks48,oo_some,marks_more hs32 hs hn]
 exact moved49_loop (puN (k + 1)) L hn0 hn hm hm2 hb hb2 (fun x hx=>by have:=(mem_marks hs32).1 hx;omega) (by omega) _ L 0 0 (List.drop_zero) (by show _ < 1000000;omega) (by omega) (Nat.two_pow_pos n)
theorem pu_turned1 (k : Nat) {n s : Nat} (hn0 : 0 < n) (hn : n ≤ 21) (hs : s < 2 ^ n) {b : Int} (hb : -100000000 ≤ b) (hb2 : b ≤ 100000000) :
 puN (k + 2) 49 [IV (Int.ofNat n),U s,IV 1,IV b] = some (U (turnN n s (plc n b))):=by
 rw [pu_moved k hn0 hn hs (by omega) (by omega) hb hb2,←turn_moved hn0 (by omega) hs]
 simp only [Int.mul_one]
end Go.RgP
set_option maxRecDepth 100000
set_option maxHeartbeats 2000000
namespace Go.RgP
open Go Go.Sp
theorem setOf_few (f:Nat→Nat) {n:Nat} (hn:n≤31) {l:List Nat} (h:∀ x ∈ l,f x < n):(marksN n (setOf f l 0)).length≤l.length:=by
 have hz:=lt32 hn (setOf_lt f (l:=l) (Nat.two_pow_pos n) h)
 have:=List.Nodup.length_le_of_subset (nodup_of_lt (marks_sorted (n:=n) hz)) (l₂:=l.map f) fun x hx=>by
  have:=((mem_marks hz).1 hx).2
  rw [setOf_bit,Nat.zero_testBit,Bool.false_or] at this
  obtain ⟨a,ha,e⟩:=List.any_eq_true.1 this
  exact List.mem_map.2 ⟨a,ha,of_decide_eq_true e⟩
 rw [List.length_map] at this;exact this
theorem good_marks {n t:Nat} (h0:0 < n) (hn:n≤21) (ht:t < 2 ^ n) (hf:(marksN n t).length≤6):Good n (marksN n t):=by
 have h:=lt32 (n:=n) (by omega) ht
 exact ⟨h0,hn,hf,marks_sorted h,fun x hx=>((mem_marks h).1 hx).1⟩
end Go.RgP
