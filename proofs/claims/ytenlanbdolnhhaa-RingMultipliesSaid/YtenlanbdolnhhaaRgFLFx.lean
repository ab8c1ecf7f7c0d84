/- The reference: clash. -/
import Derived.Test.YtenlanbdolnhhaaRgFR75x

set_option maxRecDepth 100000
set_option maxHeartbeats 4000000
namespace Go.RgP
open Go Go.Sp Go.RgFM
theorem find_range (n : Nat) (l : List Nat) (pu : PureF) (L : Nat) {D : List Nat} (hD : D = dists n l) (hlen : D.length < 900000) : ∀ (m w i : Nat), m < w → i + m = n - 1 →
 l77_1 pu L w ⟨D.length,0,vL D⟩ (Int.ofNat i) = some (IV (Int.ofNat ((((List.range' i m).map (· + 1)).find? fun d=>decide (1 < cntD n l d)).getD 0)))
 | m,0,_,h,_=>by omega
 | 0, w + 1, i, _, hi => by
  show b77_1 pu L (l77_1 pu L w) ⟨D.length,0,vL D⟩ (Int.ofNat i) = _
  have h1:D.length = n - 1:=by rw [hD];exact dists_len n l
  unfold b77_1
  show bb (ilt (Int.ofNat i) (Int.ofNat D.length)) _ _ = _
  rw [ilt_nat,show Nat.blt i D.length = false from by rw [blt_eq];simp;omega];rfl
 | m + 1, w + 1, i, hw, hi => by
  show b77_1 pu L (l77_1 pu L w) ⟨D.length,0,vL D⟩ (Int.ofNat i) = _
  have h1:D.length = n - 1:=by rw [hD];exact dists_len n l
  have hlt:Nat.blt i D.length = true:=by rw [blt_eq];simp;omega
  have ih:=find_range n l pu L hD hlen m w (i + 1) (by omega) (by omega)
  have hcell:nthL (vL D) (i * 1) = some (IV (Int.ofNat (cntD n l (i + 1)))):=by
   rw [nthL_eq,Nat.mul_one];unfold vL
   rw [List.getElem?_map,hD]
   rw [dists_get (by omega)];rfl
  unfold b77_1
  show bb (ilt (Int.ofNat i) (Int.ofNat D.length)) (oo (toN (Int.ofNat i)) none _) _ = _
  rw [ilt_nat,hlt,bb_true,show toN (Int.ofNat i) = some i from rfl,oo_some]
  show bb (an (Nat.blt i D.length) true) (oo (nthL (vL D) (i * 1)) none _) none = _
  rw [hlt,show an true true = true from rfl,bb_true,hcell,oo_some,show ∀ z,toI .i64 (IV z) = some z from fun _=>rfl,oo_some,wrapS i (by omega),ih,show ilt (1:Int) (Int.ofNat (cntD n l (i + 1))) = Nat.blt 1 (cntD n l (i + 1)) from ilt_nat 1 _,blt_eq,List.range'_succ,List.map_cons]
  by_cases hc:1 < cntD n l (i + 1)
  ·rw [decide_eq_true hc,List.find?_cons_of_pos (by simpa using hc)];rfl
  ·rw [decide_eq_false hc,List.find?_cons_of_neg (by simpa using hc)];rfl
theorem p77 (k:Nat) (args:List Value):puN (k + 1) 77 args = m77 (puN k) L args:=by kernel_rfl
theorem pu_clash77 (k f:Nat) {n:Nat} {l:List Nat} (h:Fine n l):puN (k + 3) 77 [seaF n f l] = some (IV (Int.ofNat (firstD n l))):=by
 have hn0:=h.pos
 have hn:=h.le
 rw [p77]
 show oo (puN (k + 2) 75 [seaF n f l]) none _ = _
 rw [pu_dists75 k f h,oo_some]
 have hl:=find_range n l (puN (k + 2)) L (D:=dists n l) rfl (by rw [dists_len];omega) (n - 1) L 0 (by show n - 1 < 1000000;omega) (by omega)
 rw [←List.range_eq_range'] at hl
 exact hl
end Go.RgP
set_option maxRecDepth 100000
set_option maxHeartbeats 4000000
namespace Go.RgP
open Go Go.Sp Go.RgFM
theorem markF_add (s : Nat) : ∀ (a b p : Nat), markF s (a + b) p = markF s a p ++ markF s b (p + a)
 | 0,b,p=>by rw [Nat.zero_add];rfl
 | a + 1, b, p => by
  rw [show a + 1 + b = (a + b) + 1 by omega]
  show (bif hasB s p then p :: markF s (a + b) (p + 1) else markF s (a + b) (p + 1)) = (bif hasB s p then p :: markF s a (p + 1) else markF s a (p + 1)) ++ markF s b (p + (a + 1))
  rw [markF_add s a b (p + 1),show p + 1 + a = p + (a + 1) by omega]
  cases hasB s p <;> rfl
theorem markF_shift {s : Nat} (hs : s < 4294967296) (d : Nat) : ∀ (k p : Nat), p + k ≤ 8 → (markF s k (p + d)).length = (markF (s / 2 ^ d % 256) k p).length
 | 0,_,_=>rfl
 | k + 1, p, h => by
  have e:hasB s (p + d) = hasB (s / 2 ^ d % 256) p:=by
   rw [hasB_eq hs,hasB_eq (Nat.lt_of_lt_of_le (Nat.mod_lt _ (by omega)) (by omega)),show (256:Nat) = 2 ^ 8 from rfl,Nat.testBit_mod_two_pow,←Nat.shiftRight_eq_div_pow,Nat.testBit_shiftRight]
   simp [show p < 8 by omega,Nat.add_comm]
  have ih:=markF_shift hs d k (p + 1) (by omega)
  rw [show p + 1 + d = p + d + 1 by omega] at ih
  unfold markF
  rw [e]
  cases hasB (s / 2 ^ d % 256) p with
  | true=>show (markF s k (p + d + 1)).length + 1 = (markF _ k (p + 1)).length + 1;rw [ih]
  | false=>exact ih
noncomputable def popB (b:Nat):Option Nat:=oo (str0[b]?) none fun c=>some c.toNat
theorem pop_tab:mapL popB (List.range 256) = mapL (fun b=>some (len (markF b 8 0))) (List.range 256):=by kernel_rfl
theorem mapL_eq' {α β:Type} (f:α→β) (l:List α):mapL f l = l.map f:=by
 induction l with
 | nil=>rfl
 | cons x l ih=>show f x :: mapL f l = _;rw [ih];rfl
theorem pop_at {b:Nat} (hb:b < 256):∃ c,str0[b]? = some c∧c.toNat = (markF b 8 0).length:=by
 have h:=congrArg (fun l:List (Option Nat)=>l[b]?) pop_tab
 simp only [mapL_eq',List.getElem?_map,List.getElem?_range hb,Option.map_some,len_eq] at h
 injection h with h
 obtain ⟨c,h1,h2⟩:=oo_inv (show oo (str0[b]?) none (fun c=>some c.toNat) = some _ from h)
 injection h2 with h2
 exact ⟨c,h1,h2⟩
theorem p50 (k:Nat) (args:List Value):puN (k + 1) 50 args = m50 (puN k) L args:=by kernel_rfl
theorem wrap8 {a:Nat} (ha:a < 256):wrapF .u8 (Int.ofNat a) = Int.ofNat a:=by
 show Int.ofNat (a % 256) = _
 rw [Nat.mod_eq_of_lt ha]
theorem and255 {a:Nat} (ha:a < 4294967296):aand .u32 (Int.ofNat a) (255:Int) = Int.ofNat (a % 256):=by
 rw [show (255:Int) = Int.ofNat 255 from rfl,aand32 ha (by omega),show (255:Nat) = 2 ^ 8 - 1 from rfl,Nat.and_two_pow_sub_one_eq_mod]
theorem markF_len8 (b:Nat):(markF b 8 0).length≤8:=markF_len b 8 0
theorem pu_ones (k:Nat) {s:Nat} (hs:s < 4294967296):puN (k + 1) 50 [U s] = some (IV (Int.ofNat (marksN 32 s).length)):=by
 rw [p50]
 show m50_ (puN k) L (Int.ofNat s) = _
 unfold m50_
 have d1:s / 2 ^ 16 < 4294967296:=Nat.lt_of_le_of_lt (Nat.div_le_self _ _) hs
 have d2:s / 2 ^ 8 < 4294967296:=Nat.lt_of_le_of_lt (Nat.div_le_self _ _) hs
 have d3:s / 2 ^ 24 < 256:=by omega
 obtain ⟨c0,g0,n0⟩:=pop_at d3
 obtain ⟨c1,g1,n1⟩:=pop_at (b:=s / 2 ^ 16 % 256) (Nat.mod_lt _ (by omega))
 obtain ⟨c2,g2,n2⟩:=pop_at (b:=s / 2 ^ 8 % 256) (Nat.mod_lt _ (by omega))
 obtain ⟨c3,g3,n3⟩:=pop_at (b:=s % 256) (Nat.mod_lt _ (by omega))
 rw [shr32 hs,shr32 hs,shr32 hs,and255 d1,and255 d2,and255 hs]
 show oo (str0[s / 2 ^ 24]?) none _ = _
 rw [g0,oo_some]
 show oo (str0[s / 2 ^ 16 % 256]?) none _ = _
 rw [g1,oo_some]
 show oo (str0[s / 2 ^ 8 % 256]?) none _ = _
 rw [g2,oo_some]
 show oo (str0[s % 256]?) none _ = _
 rw [g3,oo_some,n0,n1,n2,n3]
 have l0:=markF_len8 (s / 2 ^ 24)
 have l1:=markF_len8 (s / 2 ^ 16 % 256)
 have l2:=markF_len8 (s / 2 ^ 8 % 256)
 have l3:=markF_len8 (s % 256)
 show some (IV (wrapF .i64 (wrapF .u8 (Int.add (wrapF .u8 (Int.add (wrapF .u8 (Int.ofNat ((markF (s / 2 ^ 24) 8 0).length + (markF (s / 2 ^ 16 % 256) 8 0).length))) _)) _)))) = _
 rw [wrap8 (by omega)]
 show some (IV (wrapF .i64 (wrapF .u8 (Int.add (wrapF .u8 (Int.ofNat ((markF (s / 2 ^ 24) 8 0).length + (markF (s / 2 ^ 16 % 256) 8 0).length + (markF (s / 2 ^ 8 % 256) 8 0).length))) _)))) = _
 rw [wrap8 (by omega)]
 show some (IV (wrapF .i64 (wrapF .u8 (Int.ofNat ((markF (s / 2 ^ 24) 8 0).length + (markF (s / 2 ^ 16 % 256) 8 0).length + (markF (s / 2 ^ 8 % 256) 8 0).length + (markF (s % 256) 8 0).length))))) = _
 have e:(marksN 32 s).length = (markF (s / 2 ^ 24) 8 0).length + (markF (s / 2 ^ 16 % 256) 8 0).length + (markF (s / 2 ^ 8 % 256) 8 0).length + (markF (s % 256) 8 0).length:=by
  show (markF s (8 + (8 + (8 + 8))) 0).length = _
  rw [markF_add,markF_add,markF_add]
  simp only [List.length_append]
  have q0:=markF_shift hs 0 8 0 (by omega)
  have q1:=markF_shift hs 8 8 0 (by omega)
  have q2:=markF_shift hs 16 8 0 (by omega)
  have q3:=markF_shift hs 24 8 0 (by omega)
  rw [Nat.pow_zero,Nat.div_one] at q0
  rw [show s / 2 ^ 24 % 256 = s / 2 ^ 24 from Nat.mod_eq_of_lt d3] at q3
  simp only [Nat.zero_add] at q0 q1 q2 q3
  show (markF s 8 0).length + ((markF s 8 8).length + ((markF s 8 16).length + (markF s 8 24).length)) = _
  rw [q0,q1,q2,q3];omega
 generalize (markF (s / 2 ^ 24) 8 0).length = a0 at *
 generalize (markF (s / 2 ^ 16 % 256) 8 0).length = a1 at *
 generalize (markF (s / 2 ^ 8 % 256) 8 0).length = a2 at *
 generalize (markF (s % 256) 8 0).length = a3 at *
 rw [wrap8 (by omega),wrapI _ (by simp;omega) (by simp;omega),e]
end Go.RgP
set_option maxRecDepth 100000
set_option maxHeartbeats 4000000
namespace Go.RgP
open Go Go.Sp Go.RgFM
noncomputable def freeB (n s p:Nat):Bool:=!s.testBit p && Nat.beq (firstD n (marksN n (s ||| 2 ^ p))) 0
noncomputable def roomF (n s : Nat) : Nat → Nat → List Nat
 | 0,_=>[]
 | k + 1,p=>bif freeB n s p then p :: roomF n s k (p + 1) else roomF n s k (p + 1)
noncomputable def roomN (n s:Nat):List Nat:=roomF n s n 0
theorem roomF_len (n s : Nat) : ∀ k p, (roomF n s k p).length ≤ k
 | 0,_=>Nat.le_refl _
 | k + 1, p => by
  have ih:=roomF_len n s k (p + 1)
  unfold roomF
  cases freeB n s p with
  | true=>show (roomF n s k (p + 1)).length + 1≤_;omega
  | false=>show (roomF n s k (p + 1)).length≤_;omega
theorem or_lt32 {n s p:Nat} (hn:n≤21) (hs:s < 2 ^ n) (hp:p < n):s ||| 2 ^ p < 2 ^ n:=Nat.or_lt_two_pow hs (Nat.pow_lt_pow_right (by omega) hp)
theorem bit_shl {s p:Nat} (hn:s < 4294967296) (hp:p < 31):aor .u32 (Int.ofNat s) (shlI .u32 (1:Int) p) = Int.ofNat (s ||| 2 ^ p):=by
 rw [shl32 (by omega),aor32 hn (Nat.lt_of_lt_of_le (Nat.pow_lt_pow_right (by omega) hp) (by decide:2 ^ 31≤4294967296))]
theorem clash_any (k:Nat) {n s:Nat} (hn0:0 < n) (hn:n≤21) (hs:s < 4294967296):puN (k + 4) 76 [tv n s] = some (IV (Int.ofNat (firstD n (marksN n s)))):=by
 rw [pu_clash k hn0 (by omega),clashN_eq hs]
theorem ret44 (pu:PureF) (L:Nat) (q:List Nat) (c:Nat):m44_0 pu L q.length c (vL q) = some (tup2 (slv q) (IV 0)):=by
 unfold m44_0
 have h:=fin_vL q
 rw [vL_closed,bb_true]
 have e1:takeL (q.length * 1) (dropL 0 (vL q)) = vL q:=by
  rw [takeL_eq,dropL_eq,List.drop_zero,Nat.mul_one,←vL_len q,List.take_length]
 rw [e1,vL_closed,len_eq,vL_len,show Nat.ble (0 + q.length * 1) q.length = true from Nat.ble_eq_true_of_le (by omega)];rfl
theorem room_loop (k : Nat) {n s : Nat} (hn0 : 0 < n) (hn : n ≤ 21) (hs : s < 2 ^ n) : ∀ (j w p c : Nat) (q : List Nat), j < w → p + j = n → q.length ≤ p → c / 2 = q.length → c % 2 = 0 →
 l44_1 (puN (k + 4)) L w q.length c (Int.ofNat n) (Int.ofNat p) (Int.ofNat n) (Int.ofNat s) (vL q) = some (tup2 (slv (q ++ roomF n s j p)) (IV 0))
 | j,0,_,_,_,h,_,_,_,_=>by omega
 | 0, w + 1, p, c, q, _, hk, _, _, _ => by
  show b44_1 (puN (k + 4)) L (l44_1 (puN (k + 4)) L w) q.length c (Int.ofNat n) (Int.ofNat p) (Int.ofNat n) (Int.ofNat s) (vL q) = _
  unfold b44_1
  rw [vL_closed,bb_true,ilt_nat,show Nat.blt p n = false from by rw [blt_eq];simp;omega,bb_false,ret44]
  show _ = some (tup2 (slv (q ++ [])) (IV 0))
  rw [List.append_nil]
 | j + 1, w + 1, p, c, q, hw, hk, hq, hc, hc2 => by
  show b44_1 (puN (k + 4)) L (l44_1 (puN (k + 4)) L w) q.length c (Int.ofNat n) (Int.ofNat p) (Int.ofNat n) (Int.ofNat s) (vL q) = _
  have hs32:=lt32 (by omega) hs
  unfold b44_1
  rw [vL_closed,bb_true,ilt_nat,show Nat.blt p n = true from by rw [blt_eq];simp;omega,bb_true,show ∀ i,toN (Int.ofNat i) = some i from fun _=>rfl,oo_some]
  show oo (puN (k + 4) 91 [tv n s,IV (Int.ofNat p)]) none _ = _
  rw [pu_has,hasB_eq hs32,oo_some]
  show bb (nt (s.testBit p)) (oo (puN (k + 4) 76 [.agg ⟨[.int .i64 (Int.ofNat n),.int .u32 (aor .u32 (Int.ofNat s) (shlI .u32 (1:Int) p))]⟩]) none _) _ = _
  rw [bit_shl hs32 (by omega)]
  have hcl:=clash_any k (s:=s ||| 2 ^ p) hn0 hn (lt32 (by omega) (or_lt32 hn hs (by omega)))
  have hs':wrapF .i64 (Int.add (Int.ofNat p) 1) = Int.ofNat (p + 1):=wrapS p (by omega)
  have stay:=room_loop k hn0 hn hs j w (p + 1) c q (by omega) (by omega) (by omega) hc hc2
  have go:=room_loop k hn0 hn hs j w (p + 1) (2 * (q.length + 1) + bb false 1 0) (q ++ [p]) (by omega) (by omega) (by simp;omega) (by simp) (by simp)
  rw [List.length_append,show [p].length = 1 from rfl] at go
  have hstay:m44_3 (puN (k + 4)) L (l44_1 (puN (k + 4)) L w) q.length c (Int.ofNat p) (Int.ofNat n) (Int.ofNat p) false (Int.ofNat n) (Int.ofNat s) (vL q) = some (tup2 (slv (q ++ roomF n s j (p + 1))) (IV 0)):=by
   unfold m44_3 m44_2
   rw [bb_false,vL_closed,bb_true,bb_true,hs',stay]
  have hgo:m44_3 (puN (k + 4)) L (l44_1 (puN (k + 4)) L w) q.length c (Int.ofNat p) (Int.ofNat n) (Int.ofNat p) true (Int.ofNat n) (Int.ofNat s) (vL q) = some (tup2 (slv (q ++ p :: roomF n s j (p + 1))) (IV 0)):=by
   unfold m44_3 m44_2
   rw [bb_true,grow_vL (by omega) hc hc2,bb_true,vL_snoc,vL_closed,bb_true,bb_true,hs',go,List.append_assoc];rfl
  show bb (nt (s.testBit p)) (oo (puN (k + 4) 76 [tv n (s ||| 2 ^ p)]) none _) _ = _
  rw [hcl,oo_some]
  show bb (nt (s.testBit p)) (m44_3 (puN (k + 4)) L (l44_1 (puN (k + 4)) L w) q.length c (Int.ofNat p) (Int.ofNat n) (Int.ofNat p) (ieq (Int.ofNat (firstD n (marksN n (s ||| 2 ^ p)))) (Int.ofNat 0)) (Int.ofNat n) (Int.ofNat s) (vL q)) (m44_3 (puN (k + 4)) L (l44_1 (puN (k + 4)) L w) q.length c (Int.ofNat p) (Int.ofNat n) (Int.ofNat p) false (Int.ofNat n) (Int.ofNat s) (vL q)) = _
  rw [ieq_nat]
  unfold roomF freeB
  cases s.testBit p with
  | true=>exact hstay
  | false =>
   cases Nat.beq (firstD n (marksN n (s ||| 2 ^ p))) 0 with
   | true=>exact hgo
   | false=>exact hstay
theorem p44 (k:Nat) (args:List Value):puN (k + 1) 44 args = m44 (puN k) L args:=by kernel_rfl
noncomputable def nilV:Value:=Sl.v 1 ⟨0,2,[]⟩
noncomputable def roomV (n:Nat) (l:List Nat):Value:=bif Nat.beq l.length 6 then tup2 nilV (IV 3) else bif Nat.blt 0 (firstD n l) then tup2 nilV (IV 14) else tup2 (slv (roomN n (bitsOf l))) (IV 0)
theorem pu_room (k f:Nat) {n:Nat} {l:List Nat} (h:Good n l):puN (k + 5) 44 [seaF n f l] = some (roomV n l):=by
 have hlt:=bitsOf_lt h.lt
 have hn:=h.le
 rw [p44]
 show oo (puN (k + 4) 61 [seaF n f l]) none _ = _
 rw [show puN (k + 4) 61 [seaF n f l] = _ from pu_opened (k + 2) f h.pos h.le h.few h.up h.lt,oo_some]
 show oo (puN (k + 4) 50 [U (bitsOf l)]) none _ = _
 have h50:=pu_ones (k + 3) h.lt32
 rw [marks_more h.lt32 hlt (by omega),h.marks] at h50
 rw [h50,oo_some]
 show bb (ieq (Int.ofNat l.length) (Int.ofNat 6)) (some (tup2 nilV (IV 3))) (oo (puN (k + 4) 76 [tv n (bitsOf l)]) none fun v=>oo (toI .i64 v) none fun x=>bb (ilt (0:Int) x) (some (tup2 nilV (IV 14))) (l44_1 (puN (k + 4)) L L 0 0 (Int.ofNat n) (0:Int) (Int.ofNat n) (Int.ofNat (bitsOf l)) ([]:List Value))) = _
 rw [ieq_nat,pu_clashes k h,oo_some,show ∀ z,toI .i64 (IV z) = some z from fun _=>rfl,oo_some,show (0:Int) = Int.ofNat 0 from rfl,ilt_nat]
 have hl:=room_loop k h.pos h.le hlt n L 0 0 [] (by show n < 1000000;omega) (by omega) (by simp) rfl rfl
 have hl:l44_1 (puN (k + 4)) L L 0 0 (Int.ofNat n) (Int.ofNat 0) (Int.ofNat n) (Int.ofNat (bitsOf l)) ([]:List Value) = some (tup2 (slv (roomN n (bitsOf l))) (IV 0)):=hl
 rw [hl]
 unfold roomV
 cases Nat.beq l.length 6 <;> cases Nat.blt 0 (firstD n l) <;> rfl
end Go.RgP
set_option maxRecDepth 100000
set_option maxHeartbeats 4000000
namespace Go.RgP
open Go Go.Sp Go.RgFM
theorem div_loop (pu : PureF) (L : Nat) : ∀ (w a b : Nat), b < w → l90_1 pu L w (Int.ofNat a) (Int.ofNat b) = some (IV (Int.ofNat (Nat.gcd a b)))
 | 0,_,_,h=>by omega
 | w + 1, a, b, h => by
  show b90_1 pu L (l90_1 pu L w) (Int.ofNat a) (Int.ofNat b) = _
  unfold b90_1
  rw [show ilt (0:Int) (Int.ofNat b) = Nat.blt 0 b from ilt_nat 0 b,blt_eq]
  by_cases hb:0 < b
  ·have hne : ieq (Int.ofNat b) 0 = false := by rw [show (0 : Int) = Int.ofNat 0 from rfl, ieq_nat]; exact beq_ne (by omega)
   have e:Int.tmod (Int.ofNat a) (Int.ofNat b) = Int.ofNat (a % b):=by
    show Int.tmod (a:Int) (b:Int) = ((a % b:Nat):Int)
    rw [Int.tmod_eq_emod_of_nonneg (by omega),←Int.natCast_emod]
   have hlt:a % b < b:=Nat.mod_lt _ hb
   rw [decide_eq_true hb,bb_true,hne,show nt false = true from rfl,bb_true,e,div_loop pu L w b (a % b) (by omega),Nat.gcd_comm a b,Nat.gcd_rec b a,Nat.gcd_comm]
  ·have : b = 0 := by omega
   subst this
   rw [decide_eq_false hb,bb_false,Nat.gcd_zero_right];rfl
theorem p90 (k:Nat) (args:List Value):puN (k + 1) 90 args = m90 (puN k) L args:=by kernel_rfl
theorem pu_divisor (k a:Nat) {b:Nat} (hb:b < 1000):puN (k + 1) 90 [IV (Int.ofNat a),IV (Int.ofNat b)] = some (IV (Int.ofNat (Nat.gcd a b))):=by
 rw [p90]
 exact div_loop (puN k) L L a b (by show b < 1000000;omega)
theorem p41 (k:Nat) (args:List Value):puN (k + 1) 41 args = m41 (puN k) L args:=by kernel_rfl
theorem times_eq {n:Nat} {l:List Nat} (h:Good n l) (m:Int):setOf (fun x=>plc n ((x:Int) * m + 0)) l 0 = timesN n (bitsOf l) m:=by
 unfold timesN
 rw [h.marks]
 simp only [Int.add_zero]
theorem pu_mult41 (k f:Nat) {n:Nat} {l:List Nat} (h:Good n l) (m:Int):puN (k + 3) 41 [seaF n f l,IV m] = some (multV n l m):=by
 have hn:=h.le
 have hn0:=h.pos
 rw [p41]
 show oo (puN (k + 2) 26 [seaF n f l]) none _ = _
 rw [pu_check26_ok k f h,oo_some]
 show oo (puN (k + 2) 73 [IV m,IV 1,IV (Int.ofNat n)]) none _ = _
 rw [pu_is,oo_some]
 show bb (nt (decide (1≤m∧m≤Int.ofNat n))) (some (tup2 noSeal (IV 1))) (oo (puN (k + 2) 90 [IV m,IV (Int.ofNat n)]) none fun v1895=>oo (toI .i64 v1895) none fun x1897=>bb (ilt (1:Int) x1897) (some (tup2 noSeal (IV 13))) (m41_1 (puN (k + 2)) L m 0 (Int.ofNat n) ⟨l.length,f,vL l⟩ (0:Int))) = _
 unfold multV
 rw [ilt_eq,ilt_eq]
 by_cases h1:m < 1
 ·rw [decide_eq_true h1,decide_eq_false (show ¬ (1≤m∧m≤Int.ofNat n) by omega)];rfl
 ·rw [decide_eq_false h1]
  by_cases h2:Int.ofNat n < m
  ·rw [decide_eq_true h2,decide_eq_false (show ¬ (1≤m∧m≤Int.ofNat n) by omega)];rfl
  ·rw [decide_eq_false h2, decide_eq_true (show 1 ≤ m ∧ m ≤ Int.ofNat n by omega)]
   have h2':¬ (n:Int) < m:=h2
   obtain ⟨j,rfl⟩:∃ j:Nat,m = Int.ofNat j:=⟨m.toNat,by show m = ((m.toNat:Nat):Int);omega⟩
   have h1:¬ (j:Int) < 1:=h1
   have h2':¬ (n:Int) < (j:Int):=h2'
   have hj:j≤21:=by omega
   rw [pu_divisor (k + 1) j (by omega),oo_some]
   show bb (ilt (Int.ofNat 1) (Int.ofNat (Nat.gcd j n))) (some (tup2 noSeal (IV 13))) (m41_1 (puN (k + 2)) L (Int.ofNat j) 0 (Int.ofNat n) ⟨l.length,f,vL l⟩ (0:Int)) = some (bif decide (Nat.gcd j n = 1) then _ else _)
   have hpos:0 < Nat.gcd j n:=Nat.gcd_pos_of_pos_right j hn0
   rw [ilt_nat,blt_eq]
   by_cases hg:Nat.gcd j n = 1
   ·rw [decide_eq_true hg, decide_eq_false (by omega)]
    have hm:=pu_movedR k f h (m:=Int.ofNat j) (b:=0) (by show (-100:Int)≤(j:Int);omega) (by show (j:Int)≤100;omega) (by omega) (by omega) fun x hx y hy e=>injC hn0 hg (h.lt x hx) (h.lt y hy) e
    rw [times_eq h] at hm
    show oo (puN (k + 2) 67 [seaF n f l,IV (Int.ofNat j),IV 0]) none _ = _
    rw [hm,oo_some];rfl
   ·rw [decide_eq_false hg,decide_eq_true (by omega)];rfl
theorem p43 (k:Nat) (args:List Value):puN (k + 1) 43 args = m43 (puN k) L args:=by kernel_rfl
theorem mul43_loop (k f : Nat) {n : Nat} {l : List Nat} (h : Good n l) : ∀ (j w m c : Nat) (q : List Nat), j < w → m + j = n + 1 → 0 < m → q.length ≤ m → c / 2 = q.length → c % 2 = 0 →
 l43_1 (puN (k + 3)) L w q.length c (Int.ofNat m) (Int.ofNat n) ⟨l.length,f,vL l⟩ (vL q) = some (tup2 (slv (q ++ mulF n (bitsOf l) j m)) (IV 0))
 | j,0,_,_,_,hw,_,_,_,_,_=>by omega
 | 0, w + 1, m, c, q, _, hk, _, _, _, _ => by
  show b43_1 (puN (k + 3)) L (l43_1 (puN (k + 3)) L w) q.length c (Int.ofNat m) (Int.ofNat n) ⟨l.length,f,vL l⟩ (vL q) = _
  unfold b43_1
  rw [vL_closed,bb_true,ilt_nat,show Nat.blt n m = true from by rw [blt_eq];simp;omega,show nt true = false from rfl,bb_false]
  unfold m43_0
  have e1:takeL (q.length * 1) (dropL 0 (vL q)) = vL q:=by
   rw [takeL_eq,dropL_eq,List.drop_zero,Nat.mul_one,←vL_len q,List.take_length]
  rw [e1,vL_closed,bb_true,len_eq,vL_len,show Nat.ble (0 + q.length * 1) q.length = true from Nat.ble_eq_true_of_le (by omega)]
  show _ = some (tup2 (slv (q ++ [])) (IV 0))
  rw [List.append_nil];rfl
 | j + 1, w + 1, m, c, q, hw, hk, hm0, hq, hc, hc2 => by
  show b43_1 (puN (k + 3)) L (l43_1 (puN (k + 3)) L w) q.length c (Int.ofNat m) (Int.ofNat n) ⟨l.length,f,vL l⟩ (vL q) = _
  have hn:=h.le
  have hn0:=h.pos
  have hs:=bitsOf_lt h.lt
  have hsm:wrapF .i64 (Int.add (Int.ofNat m) 1) = Int.ofNat (m + 1):=wrapS m (by omega)
  have stay:=mul43_loop k f h j w (m + 1) c q (by omega) (by omega) (by omega) (by omega) hc hc2
  have go:=mul43_loop k f h j w (m + 1) (2 * (q.length + 1) + bb false 1 0) (q ++ [m]) (by omega) (by omega) (by omega) (by simp;omega) (by simp) (by simp)
  rw [List.length_append,show [m].length = 1 from rfl] at go
  have h3:∀ b,m43_3 (puN (k + 3)) L (l43_1 (puN (k + 3)) L w) q.length c (Int.ofNat m) b (Int.ofNat n) ⟨l.length,f,vL l⟩ (vL q) = some (tup2 (slv (q ++ bif b then m :: mulF n (bitsOf l) j (m + 1) else mulF n (bitsOf l) j (m + 1))) (IV 0)):=fun b=>by
   unfold m43_3 m43_2
   cases b with
   | true=>rw [bb_true,grow_vL (by omega) hc hc2,bb_true,vL_snoc,vL_closed,bb_true,bb_true,hsm,go,List.append_assoc];rfl
   | false=>rw [bb_false,vL_closed,bb_true,bb_true,hsm,stay];rfl
  unfold b43_1
  rw [vL_closed,bb_true,ilt_nat,show Nat.blt n m = false from by rw [blt_eq];simp;omega,show nt false = true from rfl,bb_true]
  show oo (puN (k + 3) 41 [seaF n f l,IV (Int.ofNat m)]) none _ = _
  have hmv:multV n l (Int.ofNat m) = bif decide (Nat.gcd m n = 1) then tup2 (seaF n 0 (marksN n (timesN n (bitsOf l) (Int.ofNat m)))) (IV 0) else tup2 noSeal (IV 13):=by
   unfold multV
   rw [ilt_eq,ilt_eq,decide_eq_false (show ¬ Int.ofNat m < 1 by show ¬ (m:Int) < 1;omega),decide_eq_false (show ¬ Int.ofNat n < Int.ofNat m by show ¬ (n:Int) < (m:Int);omega)];rfl
  have hmulF:mulF n (bitsOf l) (j + 1) m = bif isMul n (bitsOf l) m then m :: mulF n (bitsOf l) j (m + 1) else mulF n (bitsOf l) j (m + 1):=rfl
  rw [pu_mult41 k f h,hmv,oo_some,hmulF]
  unfold isMul
  cases hg:decide (Nat.gcd m n = 1) with
  | false=>exact h3 false
  | true =>
   have ht:=timesN_lt (n:=n) (s:=bitsOf l) hn0 (m:=Int.ofNat m)
   have hfew:(marksN n (timesN n (bitsOf l) (Int.ofNat m))).length≤6:=by
    have:=setOf_few (fun p=>plc n ((p:Int) * Int.ofNat m)) (n:=n) (by omega) (l:=marksN n (bitsOf l)) fun x _=>plc_lt hn0 _
    rw [h.marks] at this
    have e:timesN n (bitsOf l) (Int.ofNat m) = setOf (fun p=>plc n ((p:Int) * Int.ofNat m)) l 0:=by unfold timesN;rw [h.marks]
    rw [e];exact Nat.le_trans this h.few
   have hgd:=good_marks hn0 hn ht hfew
   show oo (puN (k + 3) 69 [seaF n 0 (marksN n (timesN n (bitsOf l) (Int.ofNat m)))]) none _ = _
   rw [pu_firstR k 0 hgd,bitsOf_marks (by omega) ht,oo_some]
   show oo (puN (k + 3) 69 [seaF n f l]) none _ = _
   rw [pu_firstR k f h,oo_some]
   have l1:(minT n (timesN n (bitsOf l) (Int.ofNat m))).length≤n:=by
    obtain ⟨b,_,hb⟩:=(minT_least (s:=timesN n (bitsOf l) (Int.ofNat m)) hn0).1
    rw [hb];exact marks_len
   have l2:(minT n (bitsOf l)).length≤n:=by
    obtain ⟨b,_,hb⟩:=(minT_least (s:=bitsOf l) hn0).1
    rw [hb];exact marks_len
   show oo (puN (k + 3) 72 [Sl.v 1 ⟨(minT n (timesN n (bitsOf l) (Int.ofNat m))).length,0,vL (minT n (timesN n (bitsOf l) (Int.ofNat m)))⟩,Sl.v 1 ⟨(minT n (bitsOf l)).length,0,vL (minT n (bitsOf l))⟩]) none _ = _
   rw [pu_same72 (k + 1) 0 0 (by omega) (by omega),oo_some,←reach_iff (by omega) hn0 hs ht]
   exact h3 _
theorem pu_mul43 (k f:Nat) {n:Nat} {l:List Nat} (h:Good n l):puN (k + 4) 43 [seaF n f l] = some (tup2 (slv (mulF n (bitsOf l) n 1)) (IV 0)):=by
 have hn:=h.le
 rw [p43]
 show oo (puN (k + 3) 26 [seaF n f l]) none _ = _
 rw [pu_check26_ok (k + 1) f h,oo_some]
 have hl:=mul43_loop k f h n L 1 0 [] (by show n < 1000000;omega) (by omega) (by omega) (by simp) rfl rfl
 exact hl
theorem room45_loop (k f : Nat) {n : Nat} {l : List Nat} (h : Good n l) : ∀ (j w p c : Nat) (q : List Nat), j < w → p + j = n → q.length ≤ p → c / 2 = q.length → c % 2 = 0 →
 l45_3 (puN (k + 3)) L w q.length c (Int.ofNat p) (Int.ofNat n) ⟨l.length,f,vL l⟩ (vL q) = some (tup2 (slv (q ++ roomF n (bitsOf l) j p)) (IV 0))
 | j,0,_,_,_,hw,_,_,_,_=>by omega
 | 0, w + 1, p, c, q, _, hk, _, _, _ => by
  show b45_3 (puN (k + 3)) L (l45_3 (puN (k + 3)) L w) q.length c (Int.ofNat p) (Int.ofNat n) ⟨l.length,f,vL l⟩ (vL q) = _
  unfold b45_3
  rw [vL_closed,bb_true,ilt_nat,show Nat.blt p n = false from by rw [blt_eq];simp;omega,bb_false]
  unfold m45_2
  have e1:takeL (q.length * 1) (dropL 0 (vL q)) = vL q:=by
   rw [takeL_eq,dropL_eq,List.drop_zero,Nat.mul_one,←vL_len q,List.take_length]
  rw [e1,vL_closed,bb_true,len_eq,vL_len,show Nat.ble (0 + q.length * 1) q.length = true from Nat.ble_eq_true_of_le (by omega)]
  show _ = some (tup2 (slv (q ++ [])) (IV 0))
  rw [List.append_nil];rfl
 | j + 1, w + 1, p, c, q, hw, hk, hq, hc, hc2 => by
  show b45_3 (puN (k + 3)) L (l45_3 (puN (k + 3)) L w) q.length c (Int.ofNat p) (Int.ofNat n) ⟨l.length,f,vL l⟩ (vL q) = _
  have hn:=h.le
  have hfew:=h.few
  have hs:=bitsOf_lt h.lt
  have hsm:wrapF .i64 (Int.add (Int.ofNat p) 1) = Int.ofNat (p + 1):=wrapS p (by omega)
  have stay:=room45_loop k f h j w (p + 1) c q (by omega) (by omega) (by omega) hc hc2
  have go:=room45_loop k f h j w (p + 1) (2 * (q.length + 1) + bb false 1 0) (q ++ [p]) (by omega) (by omega) (by simp;omega) (by simp) (by simp)
  rw [List.length_append,show [p].length = 1 from rfl] at go
  have h5:∀ b,m45_5 (puN (k + 3)) L (l45_3 (puN (k + 3)) L w) q.length c (Int.ofNat p) b (Int.ofNat n) ⟨l.length,f,vL l⟩ (vL q) = some (tup2 (slv (q ++ bif b then p :: roomF n (bitsOf l) j (p + 1) else roomF n (bitsOf l) j (p + 1))) (IV 0)):=fun b=>by
   unfold m45_5 m45_4
   cases b with
   | true=>rw [bb_true,grow_vL (by omega) hc hc2,bb_true,vL_snoc,vL_closed,bb_true,bb_true,hsm,go,List.append_assoc];rfl
   | false=>rw [bb_false,vL_closed,bb_true,bb_true,hsm,stay];rfl
  have hr:roomF n (bitsOf l) (j + 1) p = bif freeB n (bitsOf l) p then p :: roomF n (bitsOf l) j (p + 1) else roomF n (bitsOf l) j (p + 1):=rfl
  have hbit:decide (p ∈ l) = (bitsOf l).testBit p:=(bitsOf_bit l p).symm
  unfold b45_3
  rw [vL_closed,bb_true,ilt_nat,show Nat.blt p n = true from by rw [blt_eq];simp;omega,bb_true]
  show oo (puN (k + 3) 63 [seaF n f l,IV (Int.ofNat p)]) none _ = _
  rw [pu_marked (k + 2) n f p (by omega),hbit,oo_some,hr]
  unfold freeB
  cases hb:(bitsOf l).testBit p with
  | true=>exact h5 false
  | false =>
   have hpm:p ∉ l:=of_decide_eq_false (hbit.trans hb)
   have hfine:Fine n (l ++ [p]):=⟨h.pos,hn,by simp;omega,fun x hx=>by
    rcases List.mem_append.1 hx with hx | hx
    ·exact h.lt x hx
    ·have : x = p := by simpa using hx
     omega⟩
   have hperm:=more_perm (n:=n) (s:=bitsOf l) (p:=p) (by omega) hs (by omega) hb
   rw [h.marks] at hperm
   have hcl:=pu_clash77 k 0 hfine
   rw [firstD_perm hperm] at hcl
   have hroom:roomy (0 + l.length) 8 = true:=by
    unfold roomy
    exact Nat.ble_eq_true_of_le (by omega)
   have htk:takeL (l.length * 1) (vL l) = vL l:=by rw [takeL_eq,Nat.mul_one,←vL_len l,List.take_length]
   have hap:appL (dropL 0 (vL l)) [.int .i64 (Int.ofNat p)] = vL (l ++ [p]):=vL_snoc l p
   have htk2:takeL ((0 + l.length + 1) * 1) (dropL 0 (vL (l ++ [p]))) = vL (l ++ [p]):=by
    rw [takeL_eq,dropL_eq,List.drop_zero,Nat.mul_one,List.take_of_length_le]
    rw [vL_len];simp
   have hlen:l.length + 1 = (l ++ [p]).length:=by simp
   show bb true (bb (Nat.beq l.length 0) (oo (puN (k + 3) 77 [seaF n 0 [p]]) none fun v340=>oo (toI .i64 v340) none fun x342=>m45_5 (puN (k + 3)) L (l45_3 (puN (k + 3)) L w) q.length c (Int.ofNat p) (ieq x342 (0:Int)) (Int.ofNat n) ⟨l.length,f,vL l⟩ (vL q)) (bb (roomy (0 + l.length) 8) (bb (growC 1 8 (0 + l.length) (2 * (0 + l.length) + bb false 1 0) 1 (takeL (l.length * 1) (vL l))) (bb (an (Nat.ble (0 + ((0 + l.length) + 1) * 1) (len (appL (dropL 0 (takeL (l.length * 1) (vL l))) [.int .i64 (Int.ofNat p)]))) (allL closed1 (takeL (((0 + l.length) + 1) * 1) (dropL 0 (appL (dropL 0 (takeL (l.length * 1) (vL l))) [.int .i64 (Int.ofNat p)]))))) (oo (puN (k + 3) 77 [.agg ⟨[IV (Int.ofNat n),Sl.v 1 (Sl.mk ((0 + l.length) + 1) 0 (takeL (((0 + l.length) + 1) * 1) (dropL 0 (appL (dropL 0 (takeL (l.length * 1) (vL l))) [.int .i64 (Int.ofNat p)]))))]⟩]) none fun v343=>oo (toI .i64 v343) none fun x345=>m45_5 (puN (k + 3)) L (l45_3 (puN (k + 3)) L w) q.length c (Int.ofNat p) (ieq x345 (0:Int)) (Int.ofNat n) ⟨l.length,f,vL l⟩ (vL q)) none) none) none)) (m45_5 (puN (k + 3)) L (l45_3 (puN (k + 3)) L w) q.length c (Int.ofNat p) false (Int.ofNat n) ⟨l.length,f,vL l⟩ (vL q)) = _
   rw [bb_true,htk,hap,htk2,vL_closed,len_eq,vL_len,hroom,Nat.zero_add,grow_vL (by omega) (by rw [show bb false 1 0 = 0 from rfl];omega) (by rw [show bb false 1 0 = 0 from rfl];omega)]
   rw [show Nat.ble (0 + (l.length + 1) * 1) (l ++ [p]).length = true from Nat.ble_eq_true_of_le (by rw [←hlen];omega),hlen]
   have key:∀ {X:Option Value},X = some (IV (Int.ofNat (firstD n (marksN n (bitsOf l ||| 2 ^ p)))))→oo X none (fun v340=>oo (toI .i64 v340) none fun x342=>m45_5 (puN (k + 3)) L (l45_3 (puN (k + 3)) L w) q.length c (Int.ofNat p) (ieq x342 (0:Int)) (Int.ofNat n) ⟨l.length,f,vL l⟩ (vL q)) = some (tup2 (slv (q ++ bif (!false && Nat.beq (firstD n (marksN n (bitsOf l ||| 2 ^ p))) 0) then p :: roomF n (bitsOf l) j (p + 1) else roomF n (bitsOf l) j (p + 1))) (IV 0)):=fun hX=>by
    rw [hX,oo_some,show ∀ z,toI .i64 (IV z) = some z from fun _=>rfl,oo_some,show (0:Int) = Int.ofNat 0 from rfl,ieq_nat]
    exact h5 _
   cases h0:Nat.beq l.length 0 with
   | true =>
    have:l = []:=List.eq_nil_of_length_eq_zero (Nat.eq_of_beq_eq_true h0)
    refine key ?_
    rw [←hcl,this];rfl
   | false=>exact key hcl
theorem p45 (k:Nat) (args:List Value):puN (k + 1) 45 args = m45 (puN k) L args:=by kernel_rfl
theorem pu_room45 (k f:Nat) {n:Nat} {l:List Nat} (h:Good n l):puN (k + 4) 45 [seaF n f l] = some (roomV n l):=by
 have hn:=h.le
 rw [p45]
 show oo (puN (k + 3) 26 [seaF n f l]) none _ = _
 rw [pu_check26_ok (k + 1) f h,oo_some]
 have hl:=room45_loop k f h n L 0 0 [] (by show n < 1000000;omega) (by omega) (by simp) rfl rfl
 have hl:l45_3 (puN (k + 3)) L L 0 0 (0:Int) (Int.ofNat n) ⟨l.length,f,vL l⟩ [] = some (tup2 (slv (roomN n (bitsOf l))) (IV 0)):=hl
 have h1:∀ e:Int,m45_1 (puN (k + 3)) L e (Int.ofNat n) ⟨l.length,f,vL l⟩ = bb (nt (ieq e 0)) (some (tup2 nilV (IV e))) (some (tup2 (slv (roomN n (bitsOf l))) (IV 0))):=fun e=>by
  unfold m45_1
  rw [hl];rfl
 show bb (ieq (0:Int) 0) (m45_7 (puN (k + 3)) L 0 (ieq (Int.ofNat l.length) (Int.ofNat 6)) (Int.ofNat n) ⟨l.length,f,vL l⟩) (m45_7 (puN (k + 3)) L 0 false (Int.ofNat n) ⟨l.length,f,vL l⟩) = _
 rw [show ieq (0:Int) 0 = true from rfl,bb_true,ieq_nat]
 unfold m45_7 roomV
 cases Nat.beq l.length 6 with
 | true =>
  rw [bb_true]
  show m45_6 (puN (k + 3)) L 3 false (Int.ofNat n) ⟨l.length,f,vL l⟩ = _
  unfold m45_6
  rw [bb_false,h1];rfl
 | false =>
  rw [bb_false]
  show bb (ieq (0:Int) 0) (oo (puN (k + 3) 77 [seaF n f l]) none fun v368=>oo (toI .i64 v368) none fun x370=>m45_6 (puN (k + 3)) L 0 (ilt (0:Int) x370) (Int.ofNat n) ⟨l.length,f,vL l⟩) (m45_6 (puN (k + 3)) L 0 false (Int.ofNat n) ⟨l.length,f,vL l⟩) = _
  rw [show ieq (0:Int) 0 = true from rfl,bb_true,pu_clash77 k f h.fine,oo_some]
  show m45_6 (puN (k + 3)) L 0 (ilt (Int.ofNat 0) (Int.ofNat (firstD n l))) (Int.ofNat n) ⟨l.length,f,vL l⟩ = _
  rw [ilt_nat]
  unfold m45_6
  cases Nat.blt 0 (firstD n l) with
  | true=>rw [bb_true,h1];rfl
  | false=>rw [bb_false,h1];rfl
end Go.RgP
set_option maxRecDepth 100000
set_option maxHeartbeats 4000000
namespace Go.RgP
open Go Go.Sp Go.RgFM
theorem same_loop (pu : PureF) (L : Nat) {a b : List Int} (hab : a.length = b.length) (ha : a.length < 900000) (f1 f2 : Nat) : ∀ (r r' : List Int) (w i : Nat), a.drop i = r → b.drop i = r' → r.length < w → i ≤ a.length →
 l23_1 pu L w ⟨a.length,f1,iLI a⟩ ⟨b.length,f2,iLI b⟩ (Int.ofNat i) = some (.bool (decide (r = r')))
 | _,_,0,_,_,_,h,_=>by omega
 | [], r', w + 1, i, hd, hd', _, hi => by
  show b23_1 pu L (l23_1 pu L w) ⟨a.length,f1,iLI a⟩ ⟨b.length,f2,iLI b⟩ (Int.ofNat i) = _
  have h1:a.length≤i:=List.drop_eq_nil_iff.1 hd
  have h2:r' = []:=by rw [←hd'];exact List.drop_eq_nil_iff.2 (by omega)
  subst h2
  unfold b23_1
  show bb (ilt (Int.ofNat i) (Int.ofNat a.length)) _ _ = _
  rw [ilt_nat,show Nat.blt i a.length = false from by rw [blt_eq];simp;omega];simp;rfl
 | x :: r, r', w + 1, i, hd, hd', hw, hi => by
  show b23_1 pu L (l23_1 pu L w) ⟨a.length,f1,iLI a⟩ ⟨b.length,f2,iLI b⟩ (Int.ofNat i) = _
  obtain ⟨hd2,hi2,_⟩:=dropI_next hd
  cases r' with
  | nil =>
   have h1:b.length≤i:=List.drop_eq_nil_iff.1 hd'
   omega
  | cons y r' =>
   obtain ⟨hd3,_,_⟩:=dropI_next hd'
   have hr:(x :: r).length = r.length + 1:=rfl
   have hlt:Nat.blt i a.length = true:=by rw [blt_eq];simp;omega
   have hlt2:Nat.blt i b.length = true:=by rw [blt_eq];simp;omega
   have ih:=same_loop pu L hab ha f1 f2 r r' w (i + 1) hd2 hd3 (by omega) (by omega)
   unfold b23_1
   show bb (ilt (Int.ofNat i) (Int.ofNat a.length)) (oo (toN (Int.ofNat i)) none fun k=>bb (an (Nat.blt k a.length) true) (oo (nthL (iLI a) (k * 1)) none fun v=>oo (toI .i64 v) none fun x1=>bb (an (Nat.blt k b.length) true) (oo (nthL (iLI b) (k * 1)) none fun v=>oo (toI .i64 v) none fun x2=>bb (nt (ieq x1 x2)) (some (.bool false)) (l23_1 pu L w ⟨a.length,f1,iLI a⟩ ⟨b.length,f2,iLI b⟩ (wrapF .i64 (Int.add (Int.ofNat k) (1:Int))))) none) none) (m23_0 pu L) = _
   rw [ilt_nat, hlt, bb_true, show toN (Int.ofNat i) = some i from rfl, oo_some, hlt, show an true true = true from rfl, bb_true, iLI_get hd, oo_some, show ∀ z, toI .i64 (IV z) = some z from fun _ => rfl, oo_some, hlt2, show an true true = true from rfl, bb_true, iLI_get hd', oo_some,
    show ∀ z,toI .i64 (IV z) = some z from fun _=>rfl,oo_some,wrapS i (by omega),ih,ieq_eq]
   by_cases h:x = y
   ·subst h;simp
   ·have hxy : (x == y) = false := by simpa using h
    have hc:¬ (x :: r = y :: r'):=fun e=>h (by injection e)
    rw [hxy,decide_eq_false hc];rfl
theorem p23 (k:Nat) (args:List Value):puN (k + 1) 23 args = m23 (puN k) L args:=by kernel_rfl
theorem pu_same (k f1 f2:Nat) {a b:List Int} (ha:a.length < 900000):puN (k + 1) 23 [slI f1 a,slI f2 b] = some (.bool (decide (a = b))):=by
 rw [p23]
 show bb (nt (ieq (Int.ofNat a.length) (Int.ofNat b.length))) (some (.bool false)) (l23_1 (puN k) L L ⟨a.length,f1,iLI a⟩ ⟨b.length,f2,iLI b⟩ (0:Int)) = _
 rw [ieq_nat,beq_dec]
 by_cases h:a.length = b.length
 ·rw [decide_eq_true h, show nt true = false from rfl, bb_false]
  exact same_loop (puN k) L h ha f1 f2 a b L 0 (List.drop_zero) (List.drop_zero) (by show _ < 1000000;omega) (by omega)
 ·have : ¬ a = b := fun e => h (by rw [e])
  rw [decide_eq_false h,decide_eq_false this];rfl
end Go.RgP
set_option maxRecDepth 100000
set_option maxHeartbeats 4000000
namespace Go.RgP
open Go Go.Sp Go.RgFM
noncomputable def seaI (n:Int) (l:List Int):Value:=.agg ⟨[IV n,slI 0 l]⟩
theorem sea_seaI (n:Nat) (l:List Nat):seaF n 0 l = seaI (Int.ofNat n) (l.map Int.ofNat):=by unfold seaF seaI slI;rw [vL_iLI,List.length_map]
theorem chk_ne {n:Int} {l:List Int} (h:checkI n l ≠ 0):ieq (checkI n l) 0 = false:=by rw [ieq_eq];simpa using h
theorem p24 (k:Nat) (args:List Value):puN (k + 1) 24 args = m24 (puN k) L args:=by kernel_rfl
theorem same_self (k f:Nat) {l:List Int} (hl:l.length < 900000):puN (k + 1) 23 [slI f l,slI f l] = some (.bool true):=by
 rw [pu_same k f f hl,decide_eq_true rfl]
theorem equal_self (k f:Nat) (c:Int) {l:List Int} (hl:l.length < 900000):puN (k + 2) 24 [.agg ⟨[IV c,slI f l]⟩,.agg ⟨[IV c,slI f l]⟩] = some (.bool true):=by
 rw [p24]
 show bb (ieq c c) (oo (puN (k + 1) 23 [slI f l,slI f l]) none fun v1702=>(oo (vBool v1702) none fun b1704=>(m24_0 (puN (k + 1)) L b1704))) (m24_0 (puN (k + 1)) L false) = _
 rw [same_self k f hl,show ieq c c = true from by rw [ieq_eq];simp];rfl
theorem mult_tail (pu : PureF) (h14 : pu 14 [] = some (.bool true)) {n : Int} {l : List Int} {m : Int} (hl : ¬ 40 < l.length) {C G H : List Int} {c : Int} {c' g h : Nat} (e1 e2 e3 : Int)
 (h40:pu 40 [seaI n l,IV m] = some (tup2 (.agg ⟨[IV c,slI c' C]⟩) (IV e1))) (h41:pu 41 [seaI n l,IV m] = some (tup2 (.agg ⟨[IV c,slI c' C]⟩) (IV e1)))
 (h42:pu 42 [seaI n l] = some (tup2 (slI g G) (IV e2))) (h43:pu 43 [seaI n l] = some (tup2 (slI g G) (IV e2))) (h44:pu 44 [seaI n l] = some (tup2 (slI h H) (IV e3))) (h45:pu 45 [seaI n l] = some (tup2 (slI h H) (IV e3)))
 (hC:pu 24 [.agg ⟨[IV c,slI c' C]⟩,.agg ⟨[IV c,slI c' C]⟩] = some (.bool true)) (hG:pu 23 [slI g G,slI g G] = some (.bool true)) (hH:pu 23 [slI h H,slI h H] = some (.bool true)) :
 m6_ pu L n ⟨l.length,0,iLI l⟩ m = some (.bool true):=by
 have er:∀ z:Int,ieq z z = true:=fun z=>by rw [ieq_eq];simp
 unfold m6_
 show bb (ilt (Int.ofNat 40) (Int.ofNat l.length)) (oo (pu 14 []) none fun v1055=>(oo (vBool v1055) none fun b1057=>(some (Value.bool b1057)))) (oo (pu 40 [seaI n l,IV m]) none _) = _
 rw [ilt_nat,blt_eq,decide_eq_false hl,bb_false,h40,oo_some]
 show oo (pu 41 [seaI n l,IV m]) none _ = _
 rw [h41,oo_some]
 show oo (pu 42 [seaI n l]) none _ = _
 rw [h42,oo_some]
 show oo (pu 43 [seaI n l]) none _ = _
 rw [h43,oo_some]
 show oo (pu 44 [seaI n l]) none _ = _
 rw [h44,oo_some]
 show oo (pu 45 [seaI n l]) none _ = _
 rw [h45,oo_some]
 show oo (pu 24 [.agg ⟨[IV c,slI c' C]⟩,.agg ⟨[IV c,slI c' C]⟩]) none _ = _
 rw [hC,oo_some]
 show bb true (bb (ieq e1 e1) (oo (pu 23 [slI g G,slI g G]) none fun v1276=>(oo (vBool v1276) none fun b1278=>(bb b1278 (bb (ieq e2 e2) (oo (pu 23 [slI h H,slI h H]) none fun v1282=>(oo (vBool v1282) none fun b1284=>(bb b1284 (bb (ieq e3 e3) (oo (pu 14 []) none fun v1288=>(oo (vBool v1288) none fun b1290=>(m6_0 pu L b1290))) (m6_0 pu L false)) (m6_0 pu L false)))) (m6_0 pu L false)) (m6_0 pu L false)))) (m6_0 pu L false)) (m6_0 pu L false) = _
 rw [er,er,er,hG,hH,h14];rfl
section
variable (k:Nat) {n:Int} {l:List Int} (hl:l.length < 900000) (h:checkI n l ≠ 0)
include hl h
theorem bad40 (m:Int):puN (k + 3) 40 [seaI n l,IV m] = some (tup2 noSeal (IV (checkI n l))):=by
 rw [p40]
 show oo (puN (k + 2) 61 [.agg ⟨[IV n,slI 0 l]⟩]) none _ = _
 rw [pu_opened_bad k 0 hl h,oo_some]
 show bb (nt (ieq (checkI n l) 0)) _ _ = _
 rw [chk_ne h];rfl
theorem bad41 (m:Int):puN (k + 3) 41 [seaI n l,IV m] = some (tup2 noSeal (IV (checkI n l))):=by
 rw [p41]
 show oo (puN (k + 2) 26 [.agg ⟨[IV n,slI 0 l]⟩]) none _ = _
 rw [pu_check26 k 0 n hl,oo_some]
 show bb (ieq (checkI n l) 0) _ (m41_3 (puN (k + 2)) L m (checkI n l) false n ⟨l.length,0,iLI l⟩ (0:Int)) = _
 rw [chk_ne h,bb_false]
 show bb (ieq (checkI n l) 0) _ (m41_2 (puN (k + 2)) L m (checkI n l) false n ⟨l.length,0,iLI l⟩ (0:Int)) = _
 rw [chk_ne h,bb_false]
 show bb (nt (ieq (checkI n l) 0)) _ _ = _
 rw [chk_ne h];rfl
theorem bad42:puN (k + 3) 42 [seaI n l] = some (tup2 nilW (IV (checkI n l))):=by
 rw [p42]
 show oo (puN (k + 2) 61 [.agg ⟨[IV n,slI 0 l]⟩]) none _ = _
 rw [pu_opened_bad k 0 hl h,oo_some]
 show bb (nt (ieq (checkI n l) 0)) _ _ = _
 rw [chk_ne h];rfl
theorem bad43:puN (k + 3) 43 [seaI n l] = some (tup2 nilW (IV (checkI n l))):=by
 rw [p43]
 show oo (puN (k + 2) 26 [.agg ⟨[IV n,slI 0 l]⟩]) none _ = _
 rw [pu_check26 k 0 n hl,oo_some]
 show bb (nt (ieq (checkI n l) 0)) _ _ = _
 rw [chk_ne h];rfl
theorem bad44:puN (k + 3) 44 [seaI n l] = some (tup2 nilW (IV (checkI n l))):=by
 rw [p44]
 show oo (puN (k + 2) 61 [.agg ⟨[IV n,slI 0 l]⟩]) none _ = _
 rw [pu_opened_bad k 0 hl h,oo_some]
 show bb (nt (ieq (checkI n l) 0)) _ _ = _
 rw [chk_ne h];rfl
theorem bad45:puN (k + 3) 45 [seaI n l] = some (tup2 nilW (IV (checkI n l))):=by
 rw [p45]
 show oo (puN (k + 2) 26 [.agg ⟨[IV n,slI 0 l]⟩]) none _ = _
 rw [pu_check26 k 0 n hl,oo_some]
 show bb (ieq (checkI n l) 0) _ (m45_7 (puN (k + 2)) L (checkI n l) false n ⟨l.length,0,iLI l⟩) = _
 rw [chk_ne h,bb_false]
 show bb (ieq (checkI n l) 0) _ (m45_6 (puN (k + 2)) L (checkI n l) false n ⟨l.length,0,iLI l⟩) = _
 rw [chk_ne h,bb_false]
 show bb (nt (ieq (checkI n l) 0)) _ _ = _
 rw [chk_ne h];rfl
end
theorem mult_shape {n:Nat} {l:List Nat} (_:0 < n) (m:Int):∃ (c:Int) (c':Nat) (C:List Int) (e:Int),C.length≤n∧multV n l m = tup2 (.agg ⟨[IV c,slI c' C]⟩) (IV e):=by
 unfold multV
 cases ilt m 1 with
 | true=>exact ⟨0,2,[],1,by simp,rfl⟩
 | false =>
  cases ilt (Int.ofNat n) m with
  | true=>exact ⟨0,2,[],1,by simp,rfl⟩
  | false =>
   cases decide (Nat.gcd m.toNat n = 1) with
   | false=>exact ⟨0,2,[],13,by simp,rfl⟩
   | true =>
    have:=marks_len (n:=n) (s:=timesN n (bitsOf l) m)
    exact ⟨Int.ofNat n,0,(marksN n (timesN n (bitsOf l) m)).map Int.ofNat,0,by simpa using this,by rw [sea_seaI];rfl⟩
theorem mulF_len (n s : Nat) : ∀ k m, (mulF n s k m).length ≤ k
 | 0,_=>Nat.le_refl _
 | k + 1, m => by
  have ih:=mulF_len n s k (m + 1)
  unfold mulF
  cases isMul n s m with
  | true=>show (mulF n s k (m + 1)).length + 1≤_;omega
  | false=>show (mulF n s k (m + 1)).length≤_;omega
theorem room_shape (n:Nat) (l:List Nat):∃ (h:Nat) (H:List Int) (e:Int),H.length≤n∧roomV n l = tup2 (slI h H) (IV e):=by
 unfold roomV
 cases Nat.beq l.length 6 with
 | true=>exact ⟨2,[],3,by simp,rfl⟩
 | false =>
  cases Nat.blt 0 (firstD n l) with
  | true=>exact ⟨2,[],14,by simp,rfl⟩
  | false=>exact ⟨0,(roomN n (bitsOf l)).map Int.ofNat,0,by rw [List.length_map];exact roomF_len _ _ n 0,by rw [←slv_slI];rfl⟩
theorem mult_law (pu : PureF) (hpu : ∀ g, Nat.beq g 14 = false → pu g = puN 10 g) (h14 : pu 14 [] = some (.bool true)) (n : Int) (l : List Int) (m : Int) :
 m6 pu L [.agg ⟨[IV n,slI 0 l]⟩,IV m] = some (.bool true):=by
 show m6_ pu L n ⟨l.length,0,iLI l⟩ m = _
 have h23:∀ X:List Int,∀ f,X.length < 900000→pu 23 [slI f X,slI f X] = some (.bool true):=fun X f hX=>by rw [hpu 23 rfl];exact same_self 9 f hX
 have h24:∀ (c:Int) (f:Nat) (X:List Int),X.length < 900000→pu 24 [.agg ⟨[IV c,slI f X]⟩,.agg ⟨[IV c,slI f X]⟩] = some (.bool true):=fun c f X hX=>by rw [hpu 24 rfl];exact equal_self 8 f c hX
 by_cases h1:40 < l.length
 ·unfold m6_
  show bb (ilt (Int.ofNat 40) (Int.ofNat l.length)) (oo (pu 14 []) none fun v1055=>(oo (vBool v1055) none fun b1057=>(some (Value.bool b1057)))) _ = _
  rw [ilt_nat,blt_eq,decide_eq_true h1,bb_true,h14];rfl
 ·have hl : l.length < 900000 := by omega
  by_cases hc:checkI n l = 0
  ·obtain ⟨j, q, rfl, rfl, a1, a2, a3, a4, a5⟩ := checkI_inv hc
   have hg:Good j q:=⟨a1,a2,a3,a4,a5⟩
   obtain ⟨c,c',C,e1,hCl,hM⟩:=mult_shape (l:=q) a1 m
   obtain ⟨h,H,e3,hHl,hR⟩:=room_shape j q
   have hml:=mulF_len j (bitsOf q) j 1
   have h40:pu 40 [seaI (Int.ofNat j) (q.map Int.ofNat),IV m] = some (tup2 (.agg ⟨[IV c,slI c' C]⟩) (IV e1)):=by rw [←sea_seaI,hpu 40 rfl,show (10:Nat) = 6 + 4 from rfl,pu_mult40 6 0 hg,hM]
   have h41:pu 41 [seaI (Int.ofNat j) (q.map Int.ofNat),IV m] = some (tup2 (.agg ⟨[IV c,slI c' C]⟩) (IV e1)):=by rw [←sea_seaI,hpu 41 rfl,show (10:Nat) = 7 + 3 from rfl,pu_mult41 7 0 hg,hM]
   have h42:pu 42 [seaI (Int.ofNat j) (q.map Int.ofNat)] = some (tup2 (slI 0 ((mulF j (bitsOf q) j 1).map Int.ofNat)) (IV 0)):=by rw [←sea_seaI,hpu 42 rfl,show (10:Nat) = 6 + 4 from rfl,pu_mul42 6 0 hg,slv_slI]
   have h43:pu 43 [seaI (Int.ofNat j) (q.map Int.ofNat)] = some (tup2 (slI 0 ((mulF j (bitsOf q) j 1).map Int.ofNat)) (IV 0)):=by rw [←sea_seaI,hpu 43 rfl,show (10:Nat) = 6 + 4 from rfl,pu_mul43 6 0 hg,slv_slI]
   have h44:pu 44 [seaI (Int.ofNat j) (q.map Int.ofNat)] = some (tup2 (slI h H) (IV e3)):=by rw [←sea_seaI,hpu 44 rfl,show (10:Nat) = 5 + 5 from rfl,pu_room 5 0 hg,hR]
   have h45:pu 45 [seaI (Int.ofNat j) (q.map Int.ofNat)] = some (tup2 (slI h H) (IV e3)):=by rw [←sea_seaI,hpu 45 rfl,show (10:Nat) = 6 + 4 from rfl,pu_room45 6 0 hg,hR]
   exact mult_tail pu h14 h1 _ _ _ h40 h41 h42 h43 h44 h45 (h24 _ _ _ (by omega)) (h23 _ _ (by rw [List.length_map];omega)) (h23 _ _ (by omega))
  ·refine mult_tail pu h14 h1 (C := []) (G := []) (H := []) (c' := 2) (g := 2) (h := 2) (c := 0) (checkI n l) (checkI n l) (checkI n l) ?_ ?_ ?_ ?_ ?_ ?_ (h24 _ _ _ (by simp)) (h23 _ _ (by simp)) (h23 _ _ (by simp))
   ·rw [hpu 40 rfl];exact bad40 7 hl hc m
   ·rw [hpu 41 rfl];exact bad41 7 hl hc m
   ·rw [hpu 42 rfl];exact bad42 7 hl hc
   ·rw [hpu 43 rfl];exact bad43 7 hl hc
   ·rw [hpu 44 rfl];exact bad44 7 hl hc
   ·rw [hpu 45 rfl];exact bad45 7 hl hc
end Go.RgP
