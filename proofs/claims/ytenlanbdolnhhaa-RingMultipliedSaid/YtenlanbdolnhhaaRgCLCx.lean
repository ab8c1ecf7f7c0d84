/- same, of a slice that still grows. -/
import Derived.Test.YtenlanbdolnhhaaRgCL46x

set_option maxRecDepth 100000
set_option maxHeartbeats 4000000
namespace Go.RgP
open Go Go.Sp Go.RgCM
theorem same2_loop (pu : PureF) (L : Nat) {a b : List Int} (hab : a.length = b.length) (ha : a.length < 900000) (f1 f2 : Nat) : ∀ (r r' : List Int) (w i : Nat), a.drop i = r → b.drop i = r' → r.length < w → i ≤ a.length →
 l10230_1 pu L w ⟨a.length,f1,iLI a⟩ ⟨b.length,f2,iLI b⟩ (Int.ofNat i) = some (.tuple ⟨[.bool (decide (r = r'))]⟩)
 | _,_,0,_,_,_,h,_=>by omega
 | [], r', w + 1, i, hd, hd', _, hi => by
  show b10230_1 pu L (l10230_1 pu L w) ⟨a.length,f1,iLI a⟩ ⟨b.length,f2,iLI b⟩ (Int.ofNat i) = _
  have h1:a.length≤i:=List.drop_eq_nil_iff.1 hd
  have h2:r' = []:=by rw [←hd'];exact List.drop_eq_nil_iff.2 (by omega)
  subst h2
  unfold b10230_1
  show bb (ilt (Int.ofNat i) (Int.ofNat a.length)) _ _ = _
  rw [ilt_nat,show Nat.blt i a.length = false from by rw [blt_eq];simp;omega];simp;rfl
 | x :: r, r', w + 1, i, hd, hd', hw, hi => by
  show b10230_1 pu L (l10230_1 pu L w) ⟨a.length,f1,iLI a⟩ ⟨b.length,f2,iLI b⟩ (Int.ofNat i) = _
  obtain ⟨hd2,hi2,_⟩:=dropI_next hd
  cases r' with
  | nil =>
   have h1:b.length≤i:=List.drop_eq_nil_iff.1 hd'
   omega
  | cons y r' =>
   obtain ⟨hd3,_,_⟩:=dropI_next hd'
   have hr:(x :: r).length = r.length + 1:=rfl
   have hlt:Nat.blt i a.length = true:=by rw [blt_eq];simp;omega
   have hlt2:Nat.blt i b.length = true:=by rw [blt_eq];simp;omega
   have ih:=same2_loop pu L hab ha f1 f2 r r' w (i + 1) hd2 hd3 (by omega) (by omega)
   unfold b10230_1
   show bb (ilt (Int.ofNat i) (Int.ofNat a.length)) (oo (toN (Int.ofNat i)) none fun k=>bb (an (Nat.blt k a.length) true) (oo (nthL (iLI a) (k * 1)) none fun v=>oo (toI .i64 v) none fun x1=>bb (an (Nat.blt k b.length) true) (oo (nthL (iLI b) (k * 1)) none fun v=>oo (toI .i64 v) none fun x2=>bb (nt (ieq x1 x2)) (some (.tuple ⟨[.bool false]⟩)) (l10230_1 pu L w ⟨a.length,f1,iLI a⟩ ⟨b.length,f2,iLI b⟩ (wrapF .i64 (Int.add (Int.ofNat k) (1:Int))))) none) none) (m10230_0 pu L) = _
   rw [ilt_nat, hlt, bb_true, show toN (Int.ofNat i) = some i from rfl, oo_some, hlt, show an true true = true from rfl, bb_true, iLI_get hd, oo_some, show ∀ z, toI .i64 (IV z) = some z from fun _ => rfl, oo_some, hlt2, show an true true = true from rfl, bb_true, iLI_get hd', oo_some,
    show ∀ z,toI .i64 (IV z) = some z from fun _=>rfl,oo_some,wrapS i (by omega),ih,ieq_eq]
   by_cases h:x = y
   ·subst h;simp
   ·have hxy : (x == y) = false := by simpa using h
    have hc:¬ (x :: r = y :: r'):=fun e=>h (by injection e)
    rw [hxy,decide_eq_false hc];rfl
theorem p10230 (k:Nat) (args:List Value):puN (k + 1) 10230 args = m10230 (puN k) L args:=by kernel_rfl
theorem pu_same2 (k f1 f2:Nat) {a b:List Int} (ha:a.length < 900000):puN (k + 1) 10230 [slI f1 a,slI f2 b] = some (.tuple ⟨[.bool (decide (a = b))]⟩):=by
 rw [p10230]
 show bb (nt (ieq (Int.ofNat a.length) (Int.ofNat b.length))) (some (.tuple ⟨[.bool false]⟩)) (l10230_1 (puN k) L L ⟨a.length,f1,iLI a⟩ ⟨b.length,f2,iLI b⟩ (0:Int)) = _
 rw [ieq_nat,beq_dec]
 by_cases h:a.length = b.length
 ·rw [decide_eq_true h, show nt true = false from rfl, bb_false]
  exact same2_loop (puN k) L h ha f1 f2 a b L 0 (List.drop_zero) (List.drop_zero) (by show _ < 1000000;omega) (by omega)
 ·have : ¬ a = b := fun e => h (by rw [e])
  rw [decide_eq_false h,decide_eq_false this];rfl
theorem pu_same2N (k:Nat) {a b:List Nat} (ha:a.length < 900000):puN (k + 1) 10230 [slv a,slv b] = some (.tuple ⟨[.bool (decide (a = b))]⟩):=by
 rw [slv_slI,slv_slI,pu_same2 k 0 0 (by simpa using ha)]
 rw [decide_eq_decide.2 (map_ofNat_inj (a:=a) (b:=b))]
end Go.RgP
set_option maxRecDepth 100000
set_option maxHeartbeats 4000000
namespace Go.RgP
open Go Go.Sp Go.RgCM
noncomputable def mslF (n s:Nat):Sl:=⟨(mulF n s n 1).length,0,vL (mulF n s n 1)⟩
theorem mulF_len (n s : Nat) : ∀ k m, (mulF n s k m).length ≤ k
 | 0,_=>Nat.le_refl _
 | k + 1, m => by
  have ih:=mulF_len n s k (m + 1)
  unfold mulF
  cases isMul n s m with
  | true=>show (mulF n s k (m + 1)).length + 1≤_;omega
  | false=>show (mulF n s k (m + 1)).length≤_;omega
theorem tup_inv {c c' e e':Int} {s s':Sl} (h:tup2 (.agg ⟨[IV c,Sl.v 1 s]⟩) (IV e) = tup2 (.agg ⟨[IV c',Sl.v 1 s']⟩) (IV e')):(c = c'∧s = s')∧e = e':=by
 have h1:=congrArg (fun v=>oo (vTup v) (0,(⟨0,0,[]⟩:Sl),(0:Int)) fun l=>ll l (0,⟨0,0,[]⟩,0) fun a r=>ll r (0,⟨0,0,[]⟩,0) fun b _=>oo (vAgg a) (0,⟨0,0,[]⟩,0) fun l=>ll l (0,⟨0,0,[]⟩,0) fun x r=>ll r (0,⟨0,0,[]⟩,0) fun y _=>oo (toI .i64 x) (0,⟨0,0,[]⟩,0) fun x=>oo (toSl 1 y) (0,⟨0,0,[]⟩,0) fun y=>oo (toI .i64 b) (0,⟨0,0,[]⟩,0) fun b=>(x,y,b)) h
 have h1:(c,s,e) = (c',s',e'):=h1
 injection h1 with h2 h3
 injection h3 with h4 h5
 exact ⟨⟨h2,h4⟩,h5⟩
variable (pu:PureF) (hpu:∀ g,Nat.beq g 14 = false→pu g = puN 12 g) (h14:pu 14 [] = some (.bool true))
section
include hpu
theorem close_inner {n s : Nat} (hn0 : 0 < n) (hn : n ≤ 21) (hs : s < 2 ^ n) (ih0 : Int → Sl → Sl → Int → Int → Option Value) (i : Nat) (hi : i < 900000) {a : Nat} (ha : a ∈ mulF n s n 1) : ∀ (r : List Nat) (w j : Nat), (mulF n s n 1).drop j = r → r.length < w → j ≤ (mulF n s n 1).length →
 l12_7 pu L ih0 w (Int.ofNat n) (mslF n s) (Int.ofNat a) (mslF n s) (Int.ofNat (mulF n s n 1).length) (Int.ofNat i) (mslF n s) (Int.ofNat (mulF n s n 1).length) (Int.ofNat j) = ih0 (Int.ofNat n) (mslF n s) (mslF n s) (Int.ofNat (mulF n s n 1).length) (Int.ofNat (i + 1))
 | _,0,_,_,h,_=>by omega
 | [], w + 1, j, hd, _, hj => by
  show b12_7 pu L ih0 (l12_7 pu L ih0 w) (Int.ofNat n) (mslF n s) (Int.ofNat a) (mslF n s) (Int.ofNat (mulF n s n 1).length) (Int.ofNat i) (mslF n s) (Int.ofNat (mulF n s n 1).length) (Int.ofNat j) = _
  have h1:(mulF n s n 1).length≤j:=List.drop_eq_nil_iff.1 hd
  unfold b12_7 m12_6
  rw [ilt_nat,show Nat.blt j (mulF n s n 1).length = false from by rw [blt_eq];simp;omega,bb_false,wrapS i (by omega)]
 | b :: r, w + 1, j, hd, hw, hj => by
  show b12_7 pu L ih0 (l12_7 pu L ih0 w) (Int.ofNat n) (mslF n s) (Int.ofNat a) (mslF n s) (Int.ofNat (mulF n s n 1).length) (Int.ofNat i) (mslF n s) (Int.ofNat (mulF n s n 1).length) (Int.ofNat j) = _
  obtain ⟨hd2,hj2,hb⟩:=drop_next hd
  have hr:(b :: r).length = r.length + 1:=rfl
  have hlt:Nat.blt j (mulF n s n 1).length = true:=by rw [blt_eq];simp;omega
  have hml:=mulF_len n s n 1
  obtain ⟨a1,a2,a3⟩:=(mulF_mem n s n 1 a).1 ha
  obtain ⟨b1,b2,b3⟩:=(mulF_mem n s n 1 b).1 hb
  have ih:=close_inner hn0 hn hs ih0 i hi ha r w (j + 1) hd2 (by omega) (by omega)
  have h8:m12_8 pu L ih0 (l12_7 pu L ih0 w) (Int.ofNat n) (mslF n s) (Int.ofNat a) (mslF n s) (Int.ofNat (mulF n s n 1).length) (Int.ofNat i) (mslF n s) (Int.ofNat (mulF n s n 1).length) (Int.ofNat j) false = ih0 (Int.ofNat n) (mslF n s) (mslF n s) (Int.ofNat (mulF n s n 1).length) (Int.ofNat (i + 1)):=by
   unfold m12_8
   rw [bb_false,wrapS j (by omega),ih]
  have hcell:nthL (mslF n s).cs (j * 1) = some (IV (Int.ofNat b)):=vL_get hd
  have hne:ieq (Int.ofNat n) 0 = false:=by rw [show (0:Int) = Int.ofNat 0 from rfl,ieq_nat];exact beq_ne (by omega)
  unfold b12_7
  rw [ilt_nat,hlt,bb_true,show toN (Int.ofNat j) = some j from rfl,oo_some]
  show bb (an (Nat.blt j (mulF n s n 1).length) true) (oo (nthL (mslF n s).cs (j * 1)) none _) none = _
  rw [hlt,show an true true = true from rfl,bb_true,hcell,oo_some,show ∀ z,toI .i64 (IV z) = some z from fun _=>rfl,oo_some,show ilt (1:Int) (Int.ofNat n) = Nat.blt 1 n from ilt_nat 1 n,hne,h8,blt_eq]
  by_cases h1:1 < n
  ·have hp := isMul_prod h1 (by omega) hs a3 b3
   have hab:a * b≤21 * 21:=Nat.mul_le_mul (by omega) (by omega)
   have e:Int.tmod (wrapF .i64 (Int.mul (Int.ofNat a) (Int.ofNat b))) (Int.ofNat n) = Int.ofNat (a * b % n):=by
    have e0:Int.mul (Int.ofNat a) (Int.ofNat b) = ((a * b:Nat):Int):=by show (a:Int) * (b:Int) = _;rw [Int.natCast_mul]
    rw [e0,wrapI _ (by omega) (by omega)]
    show Int.tmod ((a * b:Nat):Int) (n:Int) = _
    rw [Int.tmod_eq_emod_of_nonneg (by omega),←Int.natCast_emod];rfl
   have hin:a * b % n ∈ mulF n s n 1:=(mulF_mem n s n 1 _).2 ⟨hp.2,by have:=Nat.mod_lt (a * b) hn0;omega,hp.1⟩
   have hcn:=pu_contains 10 0 (a * b % n) (l:=mulF n s n 1) (by omega)
   rw [decide_eq_true hin] at hcn
   rw [decide_eq_true h1,bb_true,show nt false = true from rfl,bb_true,e,hpu 59 rfl]
   show oo (puN 12 59 [Sl.v 1 ⟨(mulF n s n 1).length,0,vL (mulF n s n 1)⟩,IV (Int.ofNat (a * b % n))]) none _ = _
   rw [hcn,oo_some];exact h8
  ·rw [decide_eq_false h1,bb_false]
theorem close_outer (h14 : pu 14 [] = some (.bool true)) {n s : Nat} (hn0 : 0 < n) (hn : n ≤ 21) (hs : s < 2 ^ n) : ∀ (r : List Nat) (w i : Nat), (mulF n s n 1).drop i = r → r.length < w → i ≤ (mulF n s n 1).length →
 l12_5 pu L w (Int.ofNat n) (mslF n s) (mslF n s) (Int.ofNat (mulF n s n 1).length) (Int.ofNat i) = some (.bool true)
 | _,0,_,_,h,_=>by omega
 | [], w + 1, i, hd, _, hi => by
  show b12_5 pu L (l12_5 pu L w) (Int.ofNat n) (mslF n s) (mslF n s) (Int.ofNat (mulF n s n 1).length) (Int.ofNat i) = _
  have h1:(mulF n s n 1).length≤i:=List.drop_eq_nil_iff.1 hd
  unfold b12_5 m12_4
  rw [ilt_nat,show Nat.blt i (mulF n s n 1).length = false from by rw [blt_eq];simp;omega,bb_false,h14];rfl
 | a :: r, w + 1, i, hd, hw, hi => by
  show b12_5 pu L (l12_5 pu L w) (Int.ofNat n) (mslF n s) (mslF n s) (Int.ofNat (mulF n s n 1).length) (Int.ofNat i) = _
  obtain ⟨hd2,hi2,ha⟩:=drop_next hd
  have hr:(a :: r).length = r.length + 1:=rfl
  have hlt:Nat.blt i (mulF n s n 1).length = true:=by rw [blt_eq];simp;omega
  have hml:=mulF_len n s n 1
  have ih:=close_outer h14 hn0 hn hs r w (i + 1) hd2 (by omega) (by omega)
  have hcell:nthL (mslF n s).cs (i * 1) = some (IV (Int.ofNat a)):=vL_get hd
  have hin:=close_inner pu hpu hn0 hn hs (l12_5 pu L w) i (by omega) ha (mulF n s n 1) L 0 List.drop_zero (by show _ < 1000000;omega) (by omega)
  have hin:l12_7 pu L (l12_5 pu L w) L (Int.ofNat n) (mslF n s) (Int.ofNat a) (mslF n s) (Int.ofNat (mulF n s n 1).length) (Int.ofNat i) (mslF n s) (Int.ofNat (mulF n s n 1).length) (0:Int) = _:=hin
  unfold b12_5
  rw [ilt_nat,hlt,bb_true,show toN (Int.ofNat i) = some i from rfl,oo_some]
  show bb (an (Nat.blt i (mulF n s n 1).length) true) (oo (nthL (mslF n s).cs (i * 1)) none _) none = _
  rw [hlt,show an true true = true from rfl,bb_true,hcell,oo_some,show ∀ z,toI .i64 (IV z) = some z from fun _=>rfl,oo_some]
  show l12_7 pu L (l12_5 pu L w) L (Int.ofNat n) (mslF n s) (Int.ofNat a) (mslF n s) (Int.ofNat (mulF n s n 1).length) (Int.ofNat i) (mslF n s) (Int.ofNat (mulF n s n 1).length) (0:Int) = _
  rw [hin,ih]
theorem want_end (h14:pu 14 [] = some (.bool true)) {n s:Nat} (hn0:0 < n) (hn:n≤21) (hs:s < 2 ^ n) (c:Nat):m12_3 pu L (Int.ofNat n) (mslF n s) (mulF n s n 1).length c (vL (mulF n s n 1)) = some (.bool true):=by
 have hml:=mulF_len n s n 1
 have e1:takeL ((mulF n s n 1).length * 1) (dropL 0 (vL (mulF n s n 1))) = vL (mulF n s n 1):=by
  rw [takeL_eq,dropL_eq,List.drop_zero,Nat.mul_one,←vL_len (mulF n s n 1),List.take_length]
 have ho:=close_outer pu hpu h14 hn0 hn hs (mulF n s n 1) L 0 List.drop_zero (by show _ < 1000000;omega) (by omega)
 unfold m12_3
 rw [e1,vL_closed,len_eq,vL_len,show Nat.ble (0 + (mulF n s n 1).length * 1) (mulF n s n 1).length = true from Nat.ble_eq_true_of_le (by omega)]
 show oo (pu 10230 [slv (mulF n s n 1),slv (mulF n s n 1)]) none _ = _
 rw [hpu 10230 rfl,show (12:Nat) = 11 + 1 from rfl,pu_same2N 11 (by omega),decide_eq_true rfl,oo_some]
 exact ho
omit hpu in
theorem bitsOf_min {n s t:Nat} (hn0:0 < n) (hn:n≤21):Nat.beq (bitsOf (minT n s)) (bitsOf (minT n t)) = decide (minT n s = minT n t):=by
 obtain ⟨a,_,e1⟩:=(minT_least (s:=s) hn0).1
 obtain ⟨b,_,e2⟩:=(minT_least (s:=t) hn0).1
 rw [e1,e2,bitsOf_marks (by omega) turn_lt,bitsOf_marks (by omega) turn_lt,beq_dec]
 exact decide_eq_decide.2 ⟨fun h=>by rw [h],fun h=>marks_inj (by omega) turn_lt turn_lt h⟩
theorem want_step {n s : Nat} (hn0 : 0 < n) (hn : n ≤ 21) (hs : s < 2 ^ n) (ih0 : Int → Int → Sl → Nat → Nat → Int → List Value → Option Value) (sl : Sl) (c : Nat) (q : List Nat) (k : Nat) (hk : 0 < k) (hkn : k ≤ n) (hq : q.length ≤ 100) (hc : c / 2 = q.length) (hc2 : c % 2 = 0) :
 m12_11 pu L ih0 (Int.ofNat n) (Int.ofNat s) sl q.length c (Int.ofNat k) (decide (Nat.gcd k n = 1)) (vL q) = bb (isMul n s k) (ih0 (Int.ofNat n) (Int.ofNat s) sl (q.length + 1) (2 * (q.length + 1) + bb false 1 0) (Int.ofNat (k + 1)) (vL (q ++ [k]))) (ih0 (Int.ofNat n) (Int.ofNat s) sl q.length c (Int.ofNat (k + 1)) (vL q)):=by
 have h12:∀ b,m12_12 pu L ih0 (Int.ofNat n) (Int.ofNat s) sl q.length c (Int.ofNat k) b (vL q) = bb b (ih0 (Int.ofNat n) (Int.ofNat s) sl (q.length + 1) (2 * (q.length + 1) + bb false 1 0) (Int.ofNat (k + 1)) (vL (q ++ [k]))) (ih0 (Int.ofNat n) (Int.ofNat s) sl q.length c (Int.ofNat (k + 1)) (vL q)):=fun b=>by
  unfold m12_12 m12_10
  cases b with
  | true=>rw [bb_true,grow_vL (by omega) hc hc2,bb_true,vL_snoc,vL_closed,bb_true,bb_true,wrapS k (by omega),bb_true]
  | false=>rw [bb_false,vL_closed,bb_true,bb_true,wrapS k (by omega),bb_false]
 rw [isMul_iff hn0 (by omega) hs]
 unfold m12_11
 cases decide (Nat.gcd k n = 1) with
 | false=>rw [bb_false,vL_closed,bb_true,h12];rfl
 | true =>
  have ht:=timesN_lt (n:=n) (s:=s) hn0 (m:=Int.ofNat k)
  have h49:=pu_moved 10 hn0 hn hs (m:=Int.ofNat k) (b:=0) (by show (-100:Int)≤(k:Int);omega) (by show (k:Int)≤100;omega) (by omega) (by omega)
  have e:setOf (fun p=>plc n ((p:Int) * Int.ofNat k + 0)) (marksN n s) 0 = timesN n s (Int.ofNat k):=by
   unfold timesN
   simp only [Int.add_zero]
  rw [e] at h49
  rw [bb_true]
  show oo (pu 49 [IV (Int.ofNat n),U s,IV (Int.ofNat k),IV 0]) none _ = _
  rw [hpu 49 rfl,h49,oo_some]
  show oo (pu 58 [IV (Int.ofNat n),U (timesN n s (Int.ofNat k))]) none _ = _
  rw [hpu 58 rfl,show (12:Nat) = 8 + 4 from rfl,pu_least 8 hn0 hn ht,oo_some]
  show oo (puN (8 + 4) 58 [IV (Int.ofNat n),U s]) none _ = _
  rw [pu_least 8 hn0 hn hs,oo_some]
  show bb (allL closed1 (vL q)) (m12_12 pu L ih0 (Int.ofNat n) (Int.ofNat s) sl q.length c (Int.ofNat k) (ieq (Int.ofNat (bitsOf (minT n (timesN n s (Int.ofNat k))))) (Int.ofNat (bitsOf (minT n s)))) (vL q)) none = _
  rw [vL_closed,bb_true,ieq_nat,bitsOf_min hn0 hn,h12];rfl
omit hpu in
theorem free_loop {n s : Nat} (hn0 : 0 < n) (hn : n ≤ 21) (ih0 : Int → Int → Sl → Nat → Nat → Int → List Value → Option Value) (sl : Sl) (c : Nat) (q : List Nat) (k : Nat) (hk : 0 < k) (hkn : k ≤ n) : ∀ (w d : Nat) (b : Bool), k + 3 < w + d → 2 ≤ d → d ≤ k + 2 → (b = true ↔ ∀ e, 2 ≤ e → e < d → ¬ (e ∣ n ∧ e ∣ k)) →
 l12_13 pu L ih0 w (Int.ofNat n) (Int.ofNat s) sl q.length c (Int.ofNat k) b (Int.ofNat d) (vL q) = m12_11 pu L ih0 (Int.ofNat n) (Int.ofNat s) sl q.length c (Int.ofNat k) (decide (Nat.gcd k n = 1)) (vL q)
 | 0,d,_,hw,_,hd,_=>by omega
 | w + 1, d, b, hw, h2, hd, hb => by
  show b12_13 pu L ih0 (l12_13 pu L ih0 w) (Int.ofNat n) (Int.ofNat s) sl q.length c (Int.ofNat k) b (Int.ofNat d) (vL q) = _
  have hne:ieq (Int.ofNat d) 0 = false:=by rw [show (0:Int) = Int.ofNat 0 from rfl,ieq_nat];exact beq_ne (by omega)
  have hdvd:∀ z,Nat.beq (z % d) 0 = decide (d ∣ z):=fun z=>by rw [beq_dec];exact decide_eq_decide.2 ⟨Nat.dvd_of_mod_eq_zero,Nat.mod_eq_zero_of_dvd⟩
  unfold b12_13
  rw [vL_closed,bb_true,ilt_nat,blt_eq]
  by_cases h:k < d
  ·rw [decide_eq_true h, show nt true = false from rfl, bb_false]
   congr 1
   rw [Bool.eq_iff_iff,hb,decide_eq_true_eq]
   constructor
   ·intro hno
    have h1:=Nat.gcd_dvd_left k n
    have h2':=Nat.gcd_dvd_right k n
    have h3:=Nat.le_of_dvd hk h1
    have h5:0 < Nat.gcd k n:=Nat.gcd_pos_of_pos_left n hk
    refine Nat.le_antisymm (Nat.le_of_not_lt fun h6=>hno (Nat.gcd k n) h6 (by omega) ⟨h2',h1⟩) h5
   ·intro hg e e1 _ ⟨e2, e3⟩
    have:=Nat.dvd_gcd e3 e2
    rw [hg] at this
    have:=Nat.le_of_dvd (by omega) this
    omega
  ·rw [decide_eq_false h, show nt false = true from rfl, bb_true, hne, show nt false = true from rfl, bb_true, bb_true, tmodN, tmodN, hdvd, hdvd, wrapS d (by omega)]
   have go:=fun b' hb'=>free_loop (s:=s) hn0 hn ih0 sl c q k hk hkn w (d + 1) b' (by omega) (by omega) (by omega) hb'
   have hext:∀ P:Prop,(∀ e,2≤e→e < d + 1→¬ (e ∣ n∧e ∣ k))↔(∀ e,2≤e→e < d→¬ (e ∣ n∧e ∣ k))∧¬ (d ∣ n∧d ∣ k):=fun _=>
    ⟨fun H=>⟨fun e e1 e2=>H e e1 (by omega),H d h2 (by omega)⟩,fun H e e1 e2=>by
      by_cases he:e = d
      ·subst he;exact H.2
      ·exact H.1 e e1 (by omega)⟩
   cases b with
   | false =>
    rw [bb_false]
    exact go false (by rw [hext True]; constructor
                       ·intro hh;cases hh
                       ·intro hh;exact absurd (hb.2 hh.1) (by simp))
   | true =>
    have hb1:=hb.1 rfl
    rw [bb_true]
    by_cases h1:d ∣ n
    ·rw [decide_eq_true h1, show nt true = false from rfl, bb_false]
     refine go _ ?_
     rw [hext True]
     by_cases h3:d ∣ k
     ·rw [decide_eq_true h3]
      exact ⟨fun hh=>by (cases hh),fun hh=>absurd ⟨h1,h3⟩ hh.2⟩
     ·rw [decide_eq_false h3]
      exact ⟨fun _=>⟨hb1,fun hh=>h3 hh.2⟩,fun _=>rfl⟩
    ·rw [decide_eq_false h1, show nt false = true from rfl, bb_true]
     refine go _ ?_
     rw [hext True]
     exact ⟨fun _=>⟨hb1,fun hh=>h1 hh.1⟩,fun _=>rfl⟩
theorem want_loop (h14 : pu 14 [] = some (.bool true)) {n s : Nat} (hn0 : 0 < n) (hn : n ≤ 21) (hs : s < 2 ^ n) : ∀ (j w k c : Nat) (q : List Nat), j < w → k + j = n + 1 → 0 < k → q.length ≤ k → c / 2 = q.length → c % 2 = 0 → q ++ mulF n s j k = mulF n s n 1 →
 l12_9 pu L w (Int.ofNat n) (Int.ofNat s) (mslF n s) q.length c (Int.ofNat k) (vL q) = some (.bool true)
 | j,0,_,_,_,hw,_,_,_,_,_,_=>by omega
 | 0, w + 1, k, c, q, _, hk, _, _, _, _, he => by
  show b12_9 pu L (l12_9 pu L w) (Int.ofNat n) (Int.ofNat s) (mslF n s) q.length c (Int.ofNat k) (vL q) = _
  have he:q = mulF n s n 1:=by rw [←he];show _ = q ++ [];rw [List.append_nil]
  unfold b12_9
  rw [vL_closed,bb_true,ilt_nat,show Nat.blt n k = true from by rw [blt_eq];simp;omega,show nt true = false from rfl,bb_false,he]
  exact want_end pu hpu h14 hn0 hn hs c
 | j + 1, w + 1, k, c, q, hw, hk, hk0, hq, hc, hc2, he => by
  show b12_9 pu L (l12_9 pu L w) (Int.ofNat n) (Int.ofNat s) (mslF n s) q.length c (Int.ofNat k) (vL q) = _
  have he':q ++ (bif isMul n s k then k :: mulF n s j (k + 1) else mulF n s j (k + 1)) = mulF n s n 1:=he
  unfold b12_9
  rw [vL_closed,bb_true,ilt_nat,show Nat.blt n k = false from by rw [blt_eq];simp;omega,show nt false = true from rfl,bb_true]
  have hf:=free_loop pu (s:=s) hn0 hn (l12_9 pu L w) (mslF n s) c q k hk0 (by omega) L 2 true (by show _ < 1000000 + 2;omega) (by omega) (by omega) ⟨fun _ e e1 e2=>by omega,fun _=>rfl⟩
  have hf:l12_13 pu L (l12_9 pu L w) L (Int.ofNat n) (Int.ofNat s) (mslF n s) q.length c (Int.ofNat k) true (2:Int) (vL q) = _:=hf
  rw [hf,want_step pu hpu hn0 hn hs (l12_9 pu L w) (mslF n s) c q k hk0 (by omega) (by omega) hc hc2]
  cases hm:isMul n s k with
  | true =>
   rw [hm] at he'
   have ih:=want_loop h14 hn0 hn hs j w (k + 1) (2 * (q.length + 1) + bb false 1 0) (q ++ [k]) (by omega) (by omega) (by omega) (by simp;omega) (by simp) (by simp) (by rw [List.append_assoc];exact he')
   rw [List.length_append,show [k].length = 1 from rfl] at ih
   exact ih
  | false =>
   rw [hm] at he'
   exact want_loop h14 hn0 hn hs j w (k + 1) c q (by omega) (by omega) (by omega) (by omega) hc hc2 he'
theorem part_two (h14:pu 14 [] = some (.bool true)) {n:Nat} {l:List Nat} (h:Good n l) {t:Int} (t1:-32768≤t) (t2:t≤32767):m12_1 pu L t (Int.ofNat n) (Int.ofNat (bitsOf l)) = some (.bool true):=by
 have hn0:=h.pos
 have hn:=h.le
 have hs:=bitsOf_lt h.lt
 have h32:=h.lt32
 have hml:=mulF_len n (bitsOf l) n 1
 have hm21:marksN 21 (bitsOf l) = l:=by rw [marks_more h32 hs h.le];exact h.marks
 have hpl:=plc_lt hn0 t
 have htl:=turn_lt (n:=n) (s:=bitsOf l) (b:=plc n t)
 have ht32:=lt32 (n:=n) (by omega) htl
 have hfew:(marksN n (turnN n (bitsOf l) (plc n t))).length≤6:=by
  rw [turn_setOf hn0 (by omega) hs hpl,h.marks]
  exact Nat.le_trans (setOf_few _ (by omega) fun x _=>plc_lt hn0 _) h.few
 have hgt:=good_marks hn0 hn htl hfew
 have h47:pu 47 [IV (Int.ofNat n),U (bitsOf l)] = some (seaF n 0 l):=by
  have:=pu_sealed 10 n (bitsOf l)
  rw [hm21] at this;rw [hpu 47 rfl];exact this
 have h47':pu 47 [IV (Int.ofNat n),U (turnN n (bitsOf l) (plc n t))] = some (seaF n 0 (marksN n (turnN n (bitsOf l) (plc n t)))):=by
  have:=pu_sealed 10 n (turnN n (bitsOf l) (plc n t))
  rw [marks_more ht32 htl hn] at this;rw [hpu 47 rfl];exact this
 have h42:pu 42 [seaF n 0 l] = some (tup2 (slv (mulF n (bitsOf l) n 1)) (IV 0)):=by rw [hpu 42 rfl];exact pu_mul42 8 0 h
 have h42':pu 42 [seaF n 0 (marksN n (turnN n (bitsOf l) (plc n t)))] = some (tup2 (slv (mulF n (bitsOf l) n 1)) (IV 0)):=by
  have:=pu_mul42 8 0 hgt
  rw [bitsOf_marks (by omega) htl,mulF_turn hn0 (by omega) hs hpl] at this
  rw [hpu 42 rfl];exact this
 have h49:pu 49 [IV (Int.ofNat n),U (bitsOf l),IV 1,IV t] = some (U (turnN n (bitsOf l) (plc n t))):=by rw [hpu 49 rfl];exact pu_turned1 10 hn0 hn hs (by omega) (by omega)
 have hsame:pu 10230 [slv (mulF n (bitsOf l) n 1),slv (mulF n (bitsOf l) n 1)] = some (.tuple ⟨[.bool true]⟩):=by
  have:=pu_same2N 11 (a:=mulF n (bitsOf l) n 1) (b:=mulF n (bitsOf l) n 1) (by omega)
  rw [decide_eq_true rfl] at this;rw [hpu 10230 rfl];exact this
 have hw:=want_loop pu hpu h14 hn0 hn hs n L 1 0 [] (by show n < 1000000;omega) (by omega) (by omega) (by simp) rfl rfl rfl
 unfold m12_1
 show oo (pu 47 [IV (Int.ofNat n),U (bitsOf l)]) none _ = _
 rw [h47,oo_some]
 show oo (pu 42 [seaF n 0 l]) none _ = _
 rw [h42,oo_some]
 show oo (pu 49 [IV (Int.ofNat n),U (bitsOf l),IV 1,IV (wrapF .i64 t)]) none _ = _
 rw [wrapI t (by omega) (by omega),h49,oo_some]
 show oo (pu 47 [IV (Int.ofNat n),U (turnN n (bitsOf l) (plc n t))]) none _ = _
 rw [h47',oo_some]
 show oo (pu 42 [seaF n 0 (marksN n (turnN n (bitsOf l) (plc n t)))]) none _ = _
 rw [h42',oo_some]
 show oo (pu 10230 [slv (mulF n (bitsOf l) n 1),slv (mulF n (bitsOf l) n 1)]) none _ = _
 rw [hsame,oo_some]
 exact hw
theorem dist_loop2 (h14 : pu 14 [] = some (.bool true)) {n : Nat} {l : List Nat} (h : Good n l) {t : Int} (t1 : -32768 ≤ t) (t2 : t ≤ 32767) {m : Nat} (hm : m ≤ 21) (hg : Nat.gcd m n = 1) {x y : List Nat} (hx : x = dists n l) (hy : y = dists n (marksN n (timesN n (bitsOf l) (Int.ofNat m)))) : ∀ (j w d : Nat), j < w → d + j = n → 0 < d →
 l12_17 pu L w t (Int.ofNat n) (Int.ofNat (bitsOf l)) (Int.ofNat m) ⟨x.length,0,vL x⟩ ⟨y.length,0,vL y⟩ (Int.ofNat d) = some (.bool true)
 | j,0,_,hw,_,_=>by omega
 | 0, w + 1, d, _, hd, _ => by
  show b12_17 pu L (l12_17 pu L w) t (Int.ofNat n) (Int.ofNat (bitsOf l)) (Int.ofNat m) ⟨x.length,0,vL x⟩ ⟨y.length,0,vL y⟩ (Int.ofNat d) = _
  unfold b12_17
  rw [ilt_nat,show Nat.blt d n = false from by rw [blt_eq];simp;omega,bb_false]
  exact part_two pu hpu h14 h t1 t2
 | j + 1, w + 1, d, hw, hd, hd0 => by
  show b12_17 pu L (l12_17 pu L w) t (Int.ofNat n) (Int.ofNat (bitsOf l)) (Int.ofNat m) ⟨x.length,0,vL x⟩ ⟨y.length,0,vL y⟩ (Int.ofNat d) = _
  have hn:=h.le
  have hn0:=h.pos
  have hxl:x.length = n - 1:=by rw [hx];exact dists_len n l
  have hyl:y.length = n - 1:=by rw [hy];exact dists_len n _
  obtain ⟨q1,q2⟩:=dist_mult (d:=d) h hg hd0 (by omega)
  have hmod:d * m % n < n:=Nat.mod_lt _ hn0
  have hdm:d * m≤21 * 21:=Nat.mul_le_mul (by omega) hm
  have ih:=dist_loop2 h14 h t1 t2 hm hg hx hy j w (d + 1) (by omega) (by omega) (by omega)
  have e1:wrapF .i64 (Int.sub (Int.ofNat d) (1:Int)) = Int.ofNat (d - 1):=by
   show wrapF .i64 ((d:Int) - 1) = ((d - 1:Nat):Int)
   rw [wrapI _ (by omega) (by omega)];omega
  have e2:wrapF .i64 (Int.sub (Int.tmod (wrapF .i64 (Int.mul (Int.ofNat d) (Int.ofNat m))) (Int.ofNat n)) (1:Int)) = Int.ofNat (d * m % n - 1):=by
   have e0:Int.mul (Int.ofNat d) (Int.ofNat m) = ((d * m:Nat):Int):=by show (d:Int) * (m:Int) = _;rw [Int.natCast_mul]
   rw [e0,wrapI ((d * m:Nat):Int) (by omega) (by omega)]
   have e3:Int.tmod ((d * m:Nat):Int) (Int.ofNat n) = ((d * m % n:Nat):Int):=by
    show Int.tmod ((d * m:Nat):Int) (n:Int) = _
    rw [Int.tmod_eq_emod_of_nonneg (by omega),←Int.natCast_emod]
   rw [e3]
   show wrapF .i64 (((d * m % n:Nat):Int) - 1) = ((d * m % n - 1:Nat):Int)
   clear e3 e0 ih
   generalize d * m % n = r at hmod q2 ⊢
   rw [wrapI _ (by omega) (by omega)];omega
  have hne:ieq (Int.ofNat n) 0 = false:=by rw [show (0:Int) = Int.ofNat 0 from rfl,ieq_nat];exact beq_ne (by omega)
  have c1:nthL (vL x) ((d - 1) * 1) = some (IV (Int.ofNat (cntD n l d))):=by
   rw [nthL_eq,Nat.mul_one];unfold vL
   rw [List.getElem?_map,hx,dists_get (by omega),show d - 1 + 1 = d by omega];rfl
  have c2:nthL (vL y) ((d * m % n - 1) * 1) = some (IV (Int.ofNat (cntD n l d))):=by
   rw [nthL_eq,Nat.mul_one];unfold vL
   rw [List.getElem?_map,hy,dists_get (by omega),show d * m % n - 1 + 1 = d * m % n by omega,q1];rfl
  unfold b12_17
  rw [ilt_nat,show Nat.blt d n = true from by rw [blt_eq];simp;omega,bb_true,e1,show ∀ j,toN (Int.ofNat j) = some j from fun _=>rfl,oo_some]
  show bb (an (Nat.blt (d - 1) x.length) true) (oo (nthL (vL x) ((d - 1) * 1)) none _) none = _
  rw [show Nat.blt (d - 1) x.length = true from by rw [blt_eq];simp;omega,show an true true = true from rfl,bb_true,c1,oo_some,show ∀ z,toI .i64 (IV z) = some z from fun _=>rfl,oo_some,hne,show nt false = true from rfl,bb_true,e2,show ∀ j,toN (Int.ofNat j) = some j from fun _=>rfl,oo_some]
  show bb (an (Nat.blt (d * m % n - 1) y.length) true) (oo (nthL (vL y) ((d * m % n - 1) * 1)) none _) none = _
  rw [show Nat.blt (d * m % n - 1) y.length = true from by rw [blt_eq];simp;omega,show an true true = true from rfl,bb_true,c2,oo_some,show ∀ z,toI .i64 (IV z) = some z from fun _=>rfl,oo_some,ieq_nat,Nat.beq_refl,show nt true = false from rfl,bb_false,wrapS d (by omega),ih]
theorem part_one (h14 : pu 14 [] = some (.bool true)) {n : Nat} {l : List Nat} (h : Good n l) {t : Int} (t1 : -32768 ≤ t) (t2 : t ≤ 32767) {m : Nat} (hm0 : 0 < m) (hmn : m ≤ n) {c e : Int} {sl : Sl} (hv : multV n l (Int.ofNat m) = tup2 (.agg ⟨[IV c, Sl.v 1 sl]⟩) (IV e)) :
 m12_0 pu L t (Int.ofNat n) (Int.ofNat (bitsOf l)) (Int.ofNat m) e (decide (¬ Nat.gcd m n = 1)) c sl = some (.bool true):=by
 have hn0:=h.pos
 have hn:=h.le
 have hs:=bitsOf_lt h.lt
 have h32:=h.lt32
 have hm21:marksN 21 (bitsOf l) = l:=by rw [marks_more h32 hs h.le];exact h.marks
 have hmv:multV n l (Int.ofNat m) = bif decide (Nat.gcd m n = 1) then tup2 (seaF n 0 (marksN n (timesN n (bitsOf l) (Int.ofNat m)))) (IV 0) else tup2 noSeal (IV 13):=by
  unfold multV
  rw [ilt_eq,ilt_eq,decide_eq_false (show ¬ Int.ofNat m < 1 by show ¬ (m:Int) < 1;omega),decide_eq_false (show ¬ Int.ofNat n < Int.ofNat m by show ¬ (n:Int) < (m:Int);omega)];rfl
 rw [hmv] at hv
 have h2:=part_two pu hpu h14 h t1 t2
 by_cases hg:Nat.gcd m n = 1
 ·rw [decide_eq_true hg] at hv
  have hv:tup2 (seaF n 0 (marksN n (timesN n (bitsOf l) (Int.ofNat m)))) (IV 0) = tup2 (.agg ⟨[IV c,Sl.v 1 sl]⟩) (IV e):=hv
  obtain ⟨hce,hz⟩:=tup_inv hv
  obtain ⟨hc,hslq⟩:=hce
  have ht:=timesN_lt (n:=n) (s:=bitsOf l) hn0 (m:=Int.ofNat m)
  have ht32:=lt32 (n:=n) (by omega) ht
  have hlen:=marks_len (n:=n) (s:=timesN n (bitsOf l) (Int.ofNat m))
  have hfew:(marksN n (timesN n (bitsOf l) (Int.ofNat m))).length≤6:=by
   have e:timesN n (bitsOf l) (Int.ofNat m) = setOf (fun p=>plc n ((p:Int) * Int.ofNat m)) l 0:=by unfold timesN;rw [h.marks]
   rw [e];exact Nat.le_trans (setOf_few _ (by omega) fun x _=>plc_lt hn0 _) h.few
  have hgt:=good_marks hn0 hn ht hfew
  subst hc;subst hz;subst hslq
  rw [decide_eq_false (fun hh=>hh hg)]
  have h49:=pu_moved 10 hn0 hn hs (m:=Int.ofNat m) (b:=0) (by show (-100:Int)≤(m:Int);omega) (by show (m:Int)≤100;omega) (by omega) (by omega)
  have et:setOf (fun p=>plc n ((p:Int) * Int.ofNat m + 0)) (marksN n (bitsOf l)) 0 = timesN n (bitsOf l) (Int.ofNat m):=by
   unfold timesN
   simp only [Int.add_zero]
  rw [et] at h49
  have hsame:pu 10230 [slv (marksN n (timesN n (bitsOf l) (Int.ofNat m))),slv (marksN n (timesN n (bitsOf l) (Int.ofNat m)))] = some (.tuple ⟨[.bool true]⟩):=by
   have:=pu_same2N 11 (a:=marksN n (timesN n (bitsOf l) (Int.ofNat m))) (b:=marksN n (timesN n (bitsOf l) (Int.ofNat m))) (by omega)
   rw [decide_eq_true rfl] at this;rw [hpu 10230 rfl];exact this
  have h47:pu 47 [IV (Int.ofNat n),U (bitsOf l)] = some (seaF n 0 l):=by
   have:=pu_sealed 10 n (bitsOf l)
   rw [hm21] at this;rw [hpu 47 rfl];exact this
  have h27:pu 27 [seaF n 0 l] = some (tup2 (slv (dists n l)) (IV 0)):=by rw [hpu 27 rfl];exact pu_distances 7 0 h
  have h27':pu 27 [seaF n 0 (marksN n (timesN n (bitsOf l) (Int.ofNat m)))] = some (tup2 (slv (dists n (marksN n (timesN n (bitsOf l) (Int.ofNat m))))) (IV 0)):=by rw [hpu 27 rfl];exact pu_distances 7 0 hgt
  have hw:wrapF .i64 (Int.sub (Int.ofNat n) (1:Int)) = Int.ofNat (n - 1):=by
   show wrapF .i64 ((n:Int) - 1) = ((n - 1:Nat):Int)
   rw [wrapI _ (by omega) (by omega)];omega
  have hdl:=dist_loop2 pu hpu h14 h t1 t2 (m:=m) (by omega) hg rfl rfl (n - 1) L 1 (by show n - 1 < 1000000;omega) (by omega) (by omega)
  have h15:m12_15 pu L t (Int.ofNat n) (Int.ofNat (bitsOf l)) (Int.ofNat m) false (Int.ofNat n) ⟨(marksN n (timesN n (bitsOf l) (Int.ofNat m))).length,0,vL (marksN n (timesN n (bitsOf l) (Int.ofNat m)))⟩ = some (.bool true):=by
   unfold m12_15
   rw [bb_false]
   show oo (pu 47 [IV (Int.ofNat n),U (bitsOf l)]) none _ = _
   rw [h47,oo_some]
   show oo (pu 27 [seaF n 0 l]) none _ = _
   rw [h27,oo_some]
   show oo (pu 27 [seaF n 0 (marksN n (timesN n (bitsOf l) (Int.ofNat m)))]) none _ = _
   rw [h27',oo_some]
   show bb (nt (ieq (Int.ofNat (dists n l).length) (wrapF .i64 (Int.sub (Int.ofNat n) (1:Int))))) (m12_16 pu L t (Int.ofNat n) (Int.ofNat (bitsOf l)) (Int.ofNat m) ⟨(dists n l).length,0,vL (dists n l)⟩ ⟨(dists n (marksN n (timesN n (bitsOf l) (Int.ofNat m)))).length,0,vL (dists n (marksN n (timesN n (bitsOf l) (Int.ofNat m))))⟩ true) (m12_16 pu L t (Int.ofNat n) (Int.ofNat (bitsOf l)) (Int.ofNat m) ⟨(dists n l).length,0,vL (dists n l)⟩ ⟨(dists n (marksN n (timesN n (bitsOf l) (Int.ofNat m)))).length,0,vL (dists n (marksN n (timesN n (bitsOf l) (Int.ofNat m))))⟩ (nt (ieq (Int.ofNat (dists n (marksN n (timesN n (bitsOf l) (Int.ofNat m)))).length) (wrapF .i64 (Int.sub (Int.ofNat n) (1:Int)))))) = _
   rw [hw,ieq_nat,ieq_nat,beq_dec,beq_dec,decide_eq_true (dists_len n l),decide_eq_true (dists_len n _)]
   exact hdl
  unfold m12_0
  rw [bb_false]
  show bb (nt (ieq (Int.ofNat n) (Int.ofNat n))) (m12_15 pu L t (Int.ofNat n) (Int.ofNat (bitsOf l)) (Int.ofNat m) true (Int.ofNat n) ⟨(marksN n (timesN n (bitsOf l) (Int.ofNat m))).length,0,vL (marksN n (timesN n (bitsOf l) (Int.ofNat m)))⟩) (oo (pu 49 [IV (Int.ofNat n),U (bitsOf l),IV (Int.ofNat m),IV 0]) none _) = _
  rw [ieq_nat,Nat.beq_refl,show nt true = false from rfl,bb_false,hpu 49 rfl,h49,oo_some]
  show oo (pu 48 [U (timesN n (bitsOf l) (Int.ofNat m))]) none _ = _
  rw [hpu 48 rfl,show (12:Nat) = 11 + 1 from rfl,pu_marks48,marks_more ht32 ht hn,oo_some]
  show oo (pu 10230 [slv (marksN n (timesN n (bitsOf l) (Int.ofNat m))),slv (marksN n (timesN n (bitsOf l) (Int.ofNat m)))]) none _ = _
  rw [hsame,oo_some]
  exact h15
 ·rw [decide_eq_false hg] at hv
  have hv:tup2 noSeal (IV 13) = tup2 (.agg ⟨[IV c,Sl.v 1 sl]⟩) (IV e):=hv
  obtain ⟨hce,hz⟩:=tup_inv hv
  obtain ⟨hc,hslq⟩:=hce
  subst hc;subst hz;subst hslq
  rw [decide_eq_true hg]
  exact h2
theorem common_loop3 (h14 : pu 14 [] = some (.bool true)) {n : Nat} {l : List Nat} (h : Good n l) {t : Int} (t1 : -32768 ≤ t) (t2 : t ≤ 32767) {m : Nat} (hm0 : 0 < m) (hmn : m ≤ n) {c e : Int} {sl : Sl} (hv : multV n l (Int.ofNat m) = tup2 (.agg ⟨[IV c, Sl.v 1 sl]⟩) (IV e)) : ∀ (w d : Nat) (b : Bool), m + 3 < w + d → 2 ≤ d → d ≤ m + 2 → (b = false ↔ ∀ e, 2 ≤ e → e < d → ¬ (e ∣ n ∧ e ∣ m)) →
 l12_18 pu L w t (Int.ofNat n) (Int.ofNat (bitsOf l)) (Int.ofNat m) e b (Int.ofNat d) c sl = some (.bool true)
 | 0,d,_,hw,_,hd,_=>by omega
 | w + 1, d, b, hw, h2, hd, hb => by
  show b12_18 pu L (l12_18 pu L w) t (Int.ofNat n) (Int.ofNat (bitsOf l)) (Int.ofNat m) e b (Int.ofNat d) c sl = _
  have hn:=h.le
  have hn0:=h.pos
  have hne:ieq (Int.ofNat d) 0 = false:=by rw [show (0:Int) = Int.ofNat 0 from rfl,ieq_nat];exact beq_ne (by omega)
  have hdvd:∀ z,Nat.beq (z % d) 0 = decide (d ∣ z):=fun z=>by rw [beq_dec];exact decide_eq_decide.2 ⟨Nat.dvd_of_mod_eq_zero,Nat.mod_eq_zero_of_dvd⟩
  unfold b12_18
  rw [ilt_nat,blt_eq]
  by_cases hlt:m < d
  ·rw [decide_eq_true hlt, show nt true = false from rfl, bb_false]
   have hbe:b = decide (¬ Nat.gcd m n = 1):=by
    have key:b = false↔Nat.gcd m n = 1:=by
     rw [hb]
     constructor
     ·intro hno
      have h1:=Nat.gcd_dvd_left m n
      have h2':=Nat.gcd_dvd_right m n
      have h3:=Nat.le_of_dvd hm0 h1
      have h5:0 < Nat.gcd m n:=Nat.gcd_pos_of_pos_left n hm0
      exact Nat.le_antisymm (Nat.le_of_not_lt fun h6=>hno (Nat.gcd m n) h6 (by omega) ⟨h2',h1⟩) h5
     ·intro hg e e1 _ ⟨e2, e3⟩
      have:=Nat.dvd_gcd e3 e2
      rw [hg] at this
      have:=Nat.le_of_dvd (by omega) this
      omega
    by_cases hg:Nat.gcd m n = 1
    ·rw [key.2 hg,decide_eq_false (fun hh=>hh hg)]
    ·rw [decide_eq_true hg]
     cases b with
     | true=>rfl
     | false=>exact absurd (key.1 rfl) hg
   rw [hbe]
   exact part_one pu hpu h14 h t1 t2 hm0 hmn hv
  ·rw [decide_eq_false hlt, show nt false = true from rfl, bb_true, hne, show nt false = true from rfl, bb_true, bb_true, tmodN, tmodN, hdvd, hdvd, wrapS d (by omega)]
   have go:=fun b' hb'=>common_loop3 h14 h t1 t2 hm0 hmn hv w (d + 1) b' (by omega) (by omega) (by omega) hb'
   have hext:(∀ e,2≤e→e < d + 1→¬ (e ∣ n∧e ∣ m))↔(∀ e,2≤e→e < d→¬ (e ∣ n∧e ∣ m))∧¬ (d ∣ n∧d ∣ m):=
    ⟨fun H=>⟨fun e e1 e2=>H e e1 (by omega),H d h2 (by omega)⟩,fun H e e1 e2=>by
      by_cases he:e = d
      ·subst he;exact H.2
      ·exact H.1 e e1 (by omega)⟩
   cases b with
   | true =>
    rw [bb_true]
    refine go true ?_
    rw [hext]
    exact ⟨fun hh=>by (cases hh),fun hh=>absurd (hb.2 hh.1) (by simp)⟩
   | false =>
    have hb1:=hb.1 rfl
    rw [bb_false]
    by_cases h1:d ∣ n
    ·rw [decide_eq_true h1, bb_true]
     refine go _ ?_
     rw [hext]
     by_cases h3:d ∣ m
     ·rw [decide_eq_true h3]
      exact ⟨fun hh=>by (cases hh),fun hh=>absurd ⟨h1,h3⟩ hh.2⟩
     ·rw [decide_eq_false h3]
      exact ⟨fun _=>⟨hb1,fun hh=>h3 hh.2⟩,fun _=>rfl⟩
    ·rw [decide_eq_false h1, bb_false]
     refine go _ ?_
     rw [hext]
     exact ⟨fun _=>⟨hb1,fun hh=>h1 hh.1⟩,fun _=>rfl⟩
omit hpu in
theorem mult_shape2 (n:Nat) (l:List Nat) (m:Int):∃ (c e:Int) (sl:Sl),multV n l m = tup2 (.agg ⟨[IV c,Sl.v 1 sl]⟩) (IV e):=by
 unfold multV
 cases ilt m 1 with
 | true=>exact ⟨0,1,_,rfl⟩
 | false =>
  cases ilt (Int.ofNat n) m with
  | true=>exact ⟨0,1,_,rfl⟩
  | false=>cases decide (Nat.gcd m.toNat n = 1) <;> exact ⟨_,_,_,rfl⟩
theorem multiplied_law (h14 : pu 14 [] = some (.bool true)) {p b by' : Nat} (hp : p < 256) (hb : b < 4294967296) (hby : by' < 256) {t : Int} (t1 : -32768 ≤ t) (t2 : t ≤ 32767) :
 m12 pu L [.agg ⟨[.int .u8 (Int.ofNat p),.int .u32 (Int.ofNat b)]⟩,.int .u8 (Int.ofNat by'),.int .i16 t] = some (.bool true):=by
 obtain ⟨l,hg,h46⟩:=pu_stamp 10 (most:=21) (by omega) (by omega) hp hb
 generalize hn:1 + p % 21 = n at *
 have hn0:=hg.pos
 have hn21:=hg.le
 have hlt:=bitsOf_lt hg.lt
 have h32:=hg.lt32
 have hm21:marksN 21 (bitsOf l) = l:=by rw [marks_more h32 hlt hg.le];exact hg.marks
 have h47:pu 47 [IV (Int.ofNat n),U (bitsOf l)] = some (seaF n 0 l):=by
  have:=pu_sealed 10 n (bitsOf l)
  rw [hm21] at this;rw [hpu 47 rfl];exact this
 have hmod:by' % n < n:=Nat.mod_lt _ hn0
 have em:wrapF .i64 (Int.add (1:Int) (Int.tmod (wrapF .i64 (Int.ofNat by')) (Int.ofNat n))) = Int.ofNat (1 + by' % n):=by
  rw [wrapI (Int.ofNat by') (by show (-9223372036854775808:Int)≤(by':Int);omega) (by show (by':Int)≤9223372036854775807;omega)]
  show wrapF .i64 ((1:Int) + Int.tmod (by':Int) (n:Int)) = (((1 + by' % n:Nat)):Int)
  rw [Int.tmod_eq_emod_of_nonneg (by omega),←Int.natCast_emod,wrapI _ (by omega) (by omega)];omega
 obtain ⟨c,e,⟨sn,sf,sc⟩,hv⟩:=mult_shape2 n l (Int.ofNat (1 + by' % n))
 have h40:pu 40 [seaF n 0 l,IV (Int.ofNat (1 + by' % n))] = some (tup2 (.agg ⟨[IV c,Sl.v 1 ⟨sn,sf,sc⟩]⟩) (IV e)):=by rw [hpu 40 rfl,show (12:Nat) = 8 + 4 from rfl,pu_mult40 8 0 hg,hv]
 have hne:ieq (Int.ofNat n) 0 = false:=by rw [show (0:Int) = Int.ofNat 0 from rfl,ieq_nat];exact beq_ne (by omega)
 have hl:=common_loop3 pu hpu h14 hg t1 t2 (m:=1 + by' % n) (by omega) (by omega) hv L 2 false (by show _ < 1000000 + 2;omega) (by omega) (by omega) ⟨fun _ e e1 e2=>by omega,fun _=>rfl⟩
 have hl:l12_18 pu L L t (Int.ofNat n) (Int.ofNat (bitsOf l)) (Int.ofNat (1 + by' % n)) e false (2:Int) c ⟨sn,sf,sc⟩ = some (.bool true):=hl
 generalize hLL:l12_18 pu L L = F at hl
 show m12_ pu L (Int.ofNat p) (Int.ofNat b) (Int.ofNat by') t = _
 unfold m12_
 rw [hLL]
 show oo (pu 46 [.agg ⟨[.int .u8 (Int.ofNat p),.int .u32 (Int.ofNat b)]⟩,IV (Int.ofNat 21)]) none _ = _
 rw [hpu 46 rfl,h46,oo_some]
 show bb (nt (ieq (Int.ofNat n) 0)) (oo (pu 47 [IV (Int.ofNat n),U (bitsOf l)]) none _) none = _
 rw [hne,show nt false = true from rfl,bb_true,h47,oo_some]
 show oo (pu 40 [seaF n 0 l,IV (wrapF .i64 (Int.add (1:Int) (Int.tmod (wrapF .i64 (Int.ofNat by')) (Int.ofNat n))))]) none _ = _
 rw [em,h40,oo_some]
 show F t (Int.ofNat n) (Int.ofNat (bitsOf l)) (Int.ofNat (1 + by' % n)) e false (2:Int) c ⟨sn,sf,sc⟩ = _
 exact hl
end
end Go.RgP
