/- Made from wip. -/
import Derived.Test.YtenlanbdolnhhaaRgAT2x

set_option maxRecDepth 100000
set_option maxHeartbeats 2000000
namespace Go.RgP
open Go Go.Sp
theorem nodup_map_on {α β : Type} {f : α → β} : ∀ {l : List α}, l.Nodup → (∀ a ∈ l, ∀ b ∈ l, f a = f b → a = b) → (l.map f).Nodup
 | [],_,_=>by simp
 | x :: l, h, hf => by
  obtain ⟨h1,h2⟩:=List.nodup_cons.1 h
  refine List.nodup_cons.2 ⟨fun hm=>?_,nodup_map_on h2 fun a ha b hb=>hf a (List.mem_cons_of_mem _ ha) b (List.mem_cons_of_mem _ hb)⟩
  obtain ⟨y,hy,he⟩:=List.mem_map.1 hm
  have:=hf y (List.mem_cons_of_mem _ hy) x List.mem_cons_self he
  subst this;exact h1 hy
theorem nodup_filter {α:Type} {p:α→Bool} {l:List α} (h:l.Nodup):(l.filter p).Nodup:=List.Nodup.sublist List.filter_sublist h
theorem mod_add {n a d:Nat} (ha:a < n) (hd:d < n):(a + d) % n = if a + d < n then a + d else a + d - n:=by
 split
 ·exact Nat.mod_eq_of_lt (by assumption)
 ·rw [Nat.mod_eq_sub_mod (by omega),Nat.mod_eq_of_lt (by omega)]
theorem add_back {n a d:Nat} (ha:a < n) (hd:0 < d) (hd2:d < n):((a + d) % n + (n - d)) % n = a:=by
 have h1:(a + d) % n < n:=Nat.mod_lt _ (by omega)
 rw [mod_add h1 (by omega),mod_add ha hd2]
 repeat' split
 all_goals omega
theorem back_add {n a d:Nat} (ha:a < n) (hd:0 < d) (hd2:d < n):((a + (n - d)) % n + d) % n = a:=by
 have:=add_back (n:=n) (a:=a) (d:=n - d) ha (by omega) (by omega)
 rw [show n - (n - d) = d by omega] at this;exact this
theorem cntD_sym {n:Nat} {l:List Nat} (hl:l.Nodup) (hn:∀ x ∈ l,x < n) {d:Nat} (hd:0 < d) (hd2:d < n):cntD n l (n - d) = cntD n l d:=by
 unfold cntD
 rw [List.countP_eq_length_filter,List.countP_eq_length_filter]
 have hp:((l.filter fun a=>decide ((a + d) % n ∈ l)).map fun a=>(a + d) % n).Perm (l.filter fun a=>decide ((a + (n - d)) % n ∈ l)):=by
  refine (List.perm_ext_iff_of_nodup (nodup_map_on (nodup_filter hl) fun a ha b hb e=>?_) (nodup_filter hl)).2 fun x=>?_
  ·have h1 := hn a (List.mem_filter.1 ha).1
   have h2:=hn b (List.mem_filter.1 hb).1
   have e:=congrArg (fun z=>(z + (n - d)) % n) e
   rw [add_back h1 hd hd2,add_back h2 hd hd2] at e;exact e
  ·rw [List.mem_filter, List.mem_map]
   constructor
   ·rintro ⟨a, ha, rfl⟩
    obtain ⟨h1,h2⟩:=List.mem_filter.1 ha
    refine ⟨by simpa using h2,?_⟩
    rw [add_back (hn a h1) hd hd2];simpa using h1
   ·rintro ⟨h1, h2⟩
    refine ⟨(x + (n - d)) % n,List.mem_filter.2 ⟨by simpa using h2,?_⟩,back_add (hn x h1) hd hd2⟩
    rw [back_add (hn x h1) hd hd2];simpa using h1
 have:=hp.length_eq
 rw [List.length_map] at this;exact this.symm
theorem one_row {n:Nat} {l:List Nat} (hl:l.Nodup) (hn:∀ x ∈ l,x < n) {a:Nat} (ha:a ∈ l):((List.range (n - 1)).countP fun i=>decide ((a + (i + 1)) % n ∈ l)) = l.length - 1:=by
 have han:=hn a ha
 rw [List.countP_eq_length_filter]
 have hp:(((List.range (n - 1)).filter fun i=>decide ((a + (i + 1)) % n ∈ l)).map fun i=>(a + (i + 1)) % n).Perm (l.erase a):=by
  refine (List.perm_ext_iff_of_nodup (nodup_map_on (nodup_filter List.nodup_range) fun i hi j hj e=>?_) (hl.erase a)).2 fun x=>?_
  ·have h1 := List.mem_range.1 (List.mem_filter.1 hi).1
   have h2:=List.mem_range.1 (List.mem_filter.1 hj).1
   rw [mod_add han (by omega),mod_add han (by omega)] at e
   revert e
   repeat' split
   all_goals omega
  ·rw [hl.mem_erase_iff, List.mem_map]
   constructor
   ·rintro ⟨i, hi, rfl⟩
    obtain ⟨h1,h2⟩:=List.mem_filter.1 hi
    have h1:=List.mem_range.1 h1
    refine ⟨?_,by simpa using h2⟩
    rw [mod_add han (by omega)]
    split <;> omega
   ·rintro ⟨h1, h2⟩
    have hx:=hn x h2
    refine ⟨keyN n a x - 1,List.mem_filter.2 ⟨?_,?_⟩,?_⟩
    all_goals
     obtain ⟨k1,k2⟩:=key_good han hx (Ne.symm h1)
     have hk:=(key_iff han hx k1 k2)
     rw [beq_ne (Ne.symm h1),Nat.beq_refl] at hk
     have hk:x = (a + keyN n a x) % n:=of_decide_eq_true hk.symm
    ·exact List.mem_range.2 (by omega)
    ·rw [show keyN n a x - 1 + 1 = keyN n a x by omega,←hk];simpa using h2
    ·rw [show keyN n a x - 1 + 1 = keyN n a x by omega,←hk]
 have:=hp.length_eq
 rw [List.length_map,List.length_erase_of_mem ha] at this;exact this
theorem sum_ind {n : Nat} {L : List Nat} (hL : L.Nodup) (hn : ∀ x ∈ L, x < n) : ∀ (r : List Nat), (∀ x ∈ r, x ∈ L) → ((List.range (n - 1)).map fun i => r.countP fun a => decide ((a + (i + 1)) % n ∈ L)).sum = r.length * (L.length - 1)
 | [], _ => by
  have:∀ m:List Nat,(m.map fun _=>0).sum = 0:=fun m=>by induction m with | nil=>rfl | cons x m ih=>simp [ih]
  simp [this]
 | a :: r, h => by
  have ih:=sum_ind hL hn r fun x hx=>h x (List.mem_cons_of_mem _ hx)
  have hrow:=one_row hL hn (h a List.mem_cons_self)
  have hg:∀ m:List Nat,(m.map fun i=>(a :: r).countP fun a=>decide ((a + (i + 1)) % n ∈ L)).sum = (m.map fun i=>r.countP fun a=>decide ((a + (i + 1)) % n ∈ L)).sum + m.countP fun i=>decide ((a + (i + 1)) % n ∈ L):=fun m=>by
   induction m with
   | nil=>rfl
   | cons i m ihm =>
    rw [List.map_cons,List.sum_cons,ihm,List.map_cons,List.sum_cons,List.countP_cons (l:=m),List.countP_cons (l:=r)]
    omega
  rw [hg,ih,hrow,List.length_cons,Nat.succ_mul]
theorem dists_sum {n:Nat} {l:List Nat} (hl:l.Nodup) (hn:∀ x ∈ l,x < n):(dists n l).sum = l.length * (l.length - 1):=sum_ind hl hn l fun _ h=>h
def setOf (f:Nat→Nat) (l:List Nat) (z:Nat):Nat:=l.foldl (fun z p=>z ||| 2 ^ f p) z
theorem setOf_bit (f : Nat → Nat) : ∀ (l : List Nat) (z q : Nat), (setOf f l z).testBit q = (z.testBit q || l.any fun p => decide (f p = q))
 | [],z,q=>by simp [setOf]
 | p :: l, z, q => by
  show (setOf f l (z ||| 2 ^ f p)).testBit q = _
  rw [setOf_bit f l,Nat.testBit_or,Nat.testBit_two_pow,List.any_cons,Bool.or_assoc]
theorem setOf_lt (f:Nat→Nat) {n:Nat} {l:List Nat} {z:Nat} (hz:z < 2 ^ n) (h:∀ p ∈ l,f p < n):setOf f l z < 2 ^ n:=by
 refine Nat.lt_pow_two_of_testBit _ fun i hi=>?_
 rw [setOf_bit,Nat.testBit_lt_two_pow (Nat.lt_of_lt_of_le hz (Nat.pow_le_pow_right (by omega) hi)),Bool.false_or,List.any_eq_false]
 intro p hp
 have:=h p hp
 simp;omega
def turnN (n s b:Nat):Nat:=(((s * 2 ^ b) % 4294967296) ||| (s / 2 ^ (n - b))) &&& (2 ^ n - 1)
theorem turn_bit {n s b:Nat} (hn:n≤31) (hs:s < 2 ^ n) (hb:b < n) (q:Nat):(turnN n s b).testBit q = (decide (q < n) && s.testBit ((q + (n - b)) % n)):=by
 unfold turnN
 rw [Nat.testBit_and,Nat.testBit_two_pow_sub_one,Nat.testBit_or,show (4294967296:Nat) = 2 ^ 32 from rfl,Nat.testBit_mod_two_pow,←Nat.shiftLeft_eq,Nat.testBit_shiftLeft,←Nat.shiftRight_eq_div_pow,Nat.testBit_shiftRight]
 by_cases hq:q < n
 ·have h32 : q < 32 := by omega
  simp only [hq,h32,decide_true,Bool.true_and,Bool.and_true]
  by_cases h:b≤q
  ·have e1 : (q + (n - b)) % n = q - b := by rw [show q + (n - b) = (q - b) + n by omega, Nat.add_mod_right, Nat.mod_eq_of_lt (by omega)]
   have e2:s.testBit (n - b + q) = false:=Nat.testBit_lt_two_pow (Nat.lt_of_lt_of_le hs (Nat.pow_le_pow_right (by omega) (by omega)))
   rw [e1,e2];simp [h]
  ·have e1 : (q + (n - b)) % n = n - b + q := by rw [Nat.mod_eq_of_lt (by omega)]; omega
   rw [e1];simp [h]
 ·simp [hq]
theorem turn_lt {n s b:Nat}:turnN n s b < 2 ^ n:=by
 unfold turnN
 rw [Nat.and_two_pow_sub_one_eq_mod]
 exact Nat.mod_lt _ (Nat.two_pow_pos n)
theorem set_ext {n a b:Nat} (ha:a < 2 ^ n) (hb:b < 2 ^ n) (h:∀ q,q < n→a.testBit q = b.testBit q):a = b:=by
 refine Nat.eq_of_testBit_eq fun q=>?_
 by_cases hq:q < n
 ·exact h q hq
 ·rw [Nat.testBit_lt_two_pow (Nat.lt_of_lt_of_le ha (Nat.pow_le_pow_right (by omega) (by omega))),Nat.testBit_lt_two_pow (Nat.lt_of_lt_of_le hb (Nat.pow_le_pow_right (by omega) (by omega)))]
theorem lt32 {n s:Nat} (hn:n≤31) (hs:s < 2 ^ n):s < 4294967296:=Nat.lt_of_lt_of_le hs (Nat.le_trans (Nat.pow_le_pow_right (by omega) hn) (by decide))
def plc (n:Nat) (x:Int):Nat:=(x % (n:Int)).toNat
theorem plc_lt {n:Nat} (hn:0 < n) (x:Int):plc n x < n:=by
 have h1:=Int.emod_nonneg x (show (n:Int) ≠ 0 by omega)
 have h2:=Int.emod_lt_of_pos x (show (0:Int) < n by omega)
 unfold plc;omega
theorem plc_cast {n:Nat} (hn:0 < n) (x:Int):((plc n x:Nat):Int) = x % (n:Int):=by
 have h1:=Int.emod_nonneg x (show (n:Int) ≠ 0 by omega)
 unfold plc;omega
theorem plc_nat {n:Nat} (a:Nat):plc n (a:Int) = a % n:=by
 unfold plc;rw [←Int.natCast_emod];rfl
theorem plc_add {n:Nat} (hn:0 < n) (x y:Int):plc n (x + y) = (plc n x + plc n y) % n:=by
 rw [←plc_nat (n:=n)]
 unfold plc
 congr 1
 have e1:(((x % (n:Int)).toNat:Nat):Int) = x % (n:Int):=plc_cast hn x
 have e2:(((y % (n:Int)).toNat:Nat):Int) = y % (n:Int):=plc_cast hn y
 rw [show (((x % (n:Int)).toNat + (y % (n:Int)).toNat:Nat):Int) = x % (n:Int) + y % (n:Int) by rw [Int.natCast_add,e1,e2]]
 rw [Int.emod_add_emod,Int.add_emod_emod]
theorem turn_moved {n s:Nat} (hn0:0 < n) (hn:n≤31) (hs:s < 2 ^ n) (by':Int):setOf (fun p=>plc n ((p:Int) + by')) (marksN n s) 0 = turnN n s (plc n by'):=by
 have hs32:=lt32 hn hs
 have hb:=plc_lt hn0 by'
 refine set_ext (setOf_lt _ (Nat.two_pow_pos n) fun p _=>plc_lt hn0 _) turn_lt fun q hq=>?_
 rw [setOf_bit,Nat.zero_testBit,Bool.false_or,turn_bit hn hs hb,Bool.eq_iff_iff]
 simp only [List.any_eq_true,decide_eq_true_eq,Bool.and_eq_true]
 have hz:∀ p,p < n→plc n ((p:Int) + by') = (p + plc n by') % n:=fun p hp=>by rw [plc_add hn0,plc_nat,Nat.mod_eq_of_lt hp]
 constructor
 ·rintro ⟨p, hp, rfl⟩
  obtain ⟨h1,h2⟩:=(mem_marks hs32).1 hp
  refine ⟨hq,?_⟩
  rw [hz p h1]
  by_cases h0:plc n by' = 0
  ·rw [h0,Nat.add_zero,Nat.sub_zero,Nat.mod_eq_of_lt h1,Nat.add_mod_right,Nat.mod_eq_of_lt h1];exact h2
  ·rw [add_back h1 (by omega) hb];exact h2
 ·rintro ⟨_, h2⟩
  have hm:(q + (n - plc n by')) % n < n:=Nat.mod_lt _ hn0
  refine ⟨_,(mem_marks hs32).2 ⟨hm,h2⟩,?_⟩
  rw [hz _ hm]
  by_cases h0:plc n by' = 0
  ·rw [h0,Nat.sub_zero,Nat.add_zero,Nat.add_mod_right,Nat.mod_mod,Nat.mod_eq_of_lt hq]
  ·exact back_add hq (by omega) hb
theorem common_cnt {n s:Nat} (hn:n≤31) (hs:s < 2 ^ n) {d:Nat} (hd:0 < d) (hd2:d < n) {m:Nat} (hm:n≤m):(marksN m (s &&& turnN n s d)).length = cntD n (marksN n s) d:=by
 have hs32:=lt32 hn hs
 have h2:s &&& turnN n s d < 2 ^ n:=Nat.lt_of_le_of_lt Nat.and_le_left hs
 have h232:=lt32 hn h2
 rw [marks_more h232 h2 hm]
 have hl:=marks_sorted (n:=n) hs32
 rw [←cntD_sym (nodup_of_lt hl) (fun x hx=>((mem_marks hs32).1 hx).1) hd hd2]
 unfold cntD
 rw [List.countP_eq_length_filter]
 congr 1
 refine sorted_ext (marks_sorted h232) (List.Pairwise.sublist List.filter_sublist hl) fun x=>?_
 rw [mem_marks h232,List.mem_filter,mem_marks hs32,Nat.testBit_and,turn_bit hn hs hd2]
 simp only [Bool.and_eq_true,decide_eq_true_eq,mem_marks hs32]
 have:(x + (n - d)) % n < n:=Nat.mod_lt _ (by omega)
 constructor
 ·rintro ⟨h1,h2,_,h4⟩;exact ⟨⟨h1,h2⟩,this,h4⟩
 ·rintro ⟨⟨h1,h2⟩,_,h4⟩;exact ⟨h1,h2,h1,h4⟩
end Go.RgP
set_option maxRecDepth 100000
set_option maxHeartbeats 4000000
namespace Go.RgP
open Go Go.Sp Go.RgAM
noncomputable def slv (l:List Nat):Value:=Sl.v 1 ⟨l.length,0,vL l⟩
def U (s:Nat):Value:=.int .u32 (Int.ofNat s)
noncomputable def seaV (n:Nat) (l:List Nat):Value:=.agg ⟨[IV (Int.ofNat n),slv l]⟩
theorem vL_snoc (q:List Nat) (p:Nat):appL (dropL 0 (vL q)) [.int .i64 (Int.ofNat p)] = vL (q ++ [p]):=by
 rw [appL_eq,dropL_eq,List.drop_zero];unfold vL;rw [List.map_append];rfl
theorem grow_vL {q:List Nat} {c:Nat} (hq:q.length≤2000) (hc:c / 2 = q.length) (hc2:c % 2 = 0):growC 1 8 q.length c 1 (vL q) = true:=by
 unfold growC roomy
 rw [len_eq,vL_len,hc,hc2]
 rw [show Nat.ble ((4 * (q.length + 1) + 4096) * 8) 281474976710656 = true from Nat.ble_eq_true_of_le (by omega),show Nat.ble (q.length + 1) q.length = false from by rw [ble_eq];simp,show Nat.ble (0 + q.length * 1) q.length = true from Nat.ble_eq_true_of_le (by omega),show Nat.beq (0 + q.length * 1) q.length = true from by simp]
 rfl
theorem fin_vL (q:List Nat):bb (an (Nat.ble (0 + q.length * 1) (len (vL q))) (allL closed1 (takeL (q.length * 1) (dropL 0 (vL q))))) (some (Sl.v 1 (Sl.mk q.length 0 (takeL (q.length * 1) (dropL 0 (vL q)))))) none = some (slv q):=by
 have e1:takeL (q.length * 1) (dropL 0 (vL q)) = vL q:=by
  rw [takeL_eq,dropL_eq,List.drop_zero,Nat.mul_one,←vL_len q,List.take_length]
 rw [e1,vL_closed,len_eq,vL_len,show Nat.ble (0 + q.length * 1) q.length = true from Nat.ble_eq_true_of_le (by omega)];rfl
theorem marks48_loop (pu : PureF) (L s : Nat) : ∀ (k w p c : Nat) (q : List Nat), k < w → p + k = 21 → q.length ≤ p → c / 2 = q.length → c % 2 = 0 →
 l48_1 pu L w (Int.ofNat s) q.length c (Int.ofNat p) (vL q) = some (slv (q ++ markF s k p))
 | k,0,_,_,_,h,_,_,_,_=>by omega
 | 0, w + 1, p, c, q, _, hk, _, _, _ => by
  show b48_1 pu L (l48_1 pu L w) (Int.ofNat s) q.length c (Int.ofNat p) (vL q) = _
  unfold b48_1
  rw [vL_closed,bb_true,show (21:Int) = Int.ofNat 21 from rfl,ilt_nat,show Nat.blt p 21 = false from by rw [blt_eq];simp;omega,bb_false]
  unfold m48_0
  rw [vL_closed,bb_true,fin_vL]
  show _ = some (slv (q ++ []))
  rw [List.append_nil]
 | k + 1, w + 1, p, c, q, hw, hk, hq, hc, hc2 => by
  show b48_1 pu L (l48_1 pu L w) (Int.ofNat s) q.length c (Int.ofNat p) (vL q) = _
  unfold b48_1
  rw [vL_closed,bb_true,show (21:Int) = Int.ofNat 21 from rfl,ilt_nat,show Nat.blt p 21 = true from by rw [blt_eq];simp;omega,bb_true]
  show bb (hasB s p) _ _ = _
  have hs:wrapF .i64 (Int.add (Int.ofNat p) 1) = Int.ofNat (p + 1):=wrapS p (by omega)
  unfold markF
  cases hasB s p with
  | false =>
   rw [bb_false]
   unfold m48_2
   rw [vL_closed,bb_true,hs]
   exact marks48_loop pu L s k w (p + 1) c q (by omega) (by omega) (by omega) hc hc2
  | true =>
   rw [bb_true,grow_vL (by omega) hc hc2,bb_true,vL_snoc,vL_closed,bb_true]
   unfold m48_2
   rw [vL_closed,bb_true,hs]
   have ih:=marks48_loop pu L s k w (p + 1) (2 * (q.length + 1) + bb false 1 0) (q ++ [p]) (by omega) (by omega) (by simp;omega) (by simp) (by simp)
   rw [List.length_append] at ih
   show l48_1 pu L w (Int.ofNat s) (q.length + 1) (2 * (q.length + 1) + bb false 1 0) (Int.ofNat (p + 1)) (vL (q ++ [p])) = _
   rw [show [p].length = 1 from rfl] at ih
   rw [ih,List.append_assoc];rfl
theorem p48 (k:Nat) (args:List Value):puN (k + 1) 48 args = m48 (puN k) L args:=by kernel_rfl
theorem pu_marks48 (k s:Nat):puN (k + 1) 48 [U s] = some (slv (marksN 21 s)):=by
 rw [p48];exact marks48_loop (puN k) L s 21 L 0 0 [] (by show 21 < 1000000;omega) rfl (by simp) rfl rfl
theorem p47 (k:Nat) (args:List Value):puN (k + 1) 47 args = m47 (puN k) L args:=by kernel_rfl
theorem pu_sealed (k n s:Nat):puN (k + 2) 47 [IV (Int.ofNat n),U s] = some (seaV n (marksN 21 s)):=by
 rw [p47]
 show oo (puN (k + 1) 48 [U s]) none _ = _
 rw [pu_marks48,oo_some];rfl
theorem rem2 {n:Nat} (hn:0 < n) (hn2:n < 1000) {x:Int} (h1:-1000000000 < x) (h2:x < 1000000000):Int.tmod (wrapF .i64 (Int.add (Int.tmod (wrapF .i64 x) (Int.ofNat n)) (Int.ofNat n))) (Int.ofNat n) = Int.ofNat (plc n x):=by
 rw [wrapI x (by omega) (by omega)]
 show Int.tmod (wrapF .i64 (Int.tmod x (n:Int) + (n:Int))) (n:Int) = ((plc n x:Nat):Int)
 have hp:(0:Int) < (n:Int):=by omega
 have g1:=Int.tmod_lt_of_pos x hp
 have g2:-(n:Int) < Int.tmod x n:=by
  have:=Int.lt_tmod_of_pos x hp;omega
 rw [wrapI _ (by omega) (by omega),Int.tmod_eq_emod_of_nonneg (by omega),plc_cast hn]
 have h3:Int.tmod x (n:Int) + (n:Int) = x + (n:Int) * (1 - Int.tdiv x n):=by
  have:=Int.mul_tdiv_add_tmod x (n:Int)
  rw [Int.mul_sub];omega
 rw [h3,Int.add_mul_emod_self_left]
theorem moved49_loop (pu : PureF) (L : Nat) {n : Nat} (hn0 : 0 < n) (hn : n ≤ 21) {m b : Int} (hm : -100 ≤ m) (hm2 : m ≤ 100) (hb : -100000000 ≤ b) (hb2 : b ≤ 100000000) {l : List Nat} (hl : ∀ x ∈ l, x < 32) (hl2 : l.length < 100) :
 ∀ (r:List Nat) (w i z:Nat),l.drop i = r→r.length < w→i≤l.length→z < 2 ^ n →
 l49_1 pu L w (Int.ofNat n) m b (Int.ofNat z) ⟨l.length,0,vL l⟩ (Int.ofNat l.length) (Int.ofNat i) = some (U (setOf (fun p=>plc n ((p:Int) * m + b)) r z))
 | _,0,_,_,_,h,_,_=>by omega
 | [], w + 1, i, z, hd, _, hi, _ => by
  show b49_1 pu L (l49_1 pu L w) (Int.ofNat n) m b (Int.ofNat z) ⟨l.length,0,vL l⟩ (Int.ofNat l.length) (Int.ofNat i) = _
  have:l.length≤i:=List.drop_eq_nil_iff.1 hd
  unfold b49_1
  rw [ilt_nat,show Nat.blt i l.length = false from by rw [blt_eq];simp;omega];rfl
 | p :: r, w + 1, i, z, hd, hw, hi, hz => by
  show b49_1 pu L (l49_1 pu L w) (Int.ofNat n) m b (Int.ofNat z) ⟨l.length,0,vL l⟩ (Int.ofNat l.length) (Int.ofNat i) = _
  obtain ⟨hd2,hi2,hb'⟩:=drop_next hd
  have hp:=hl p hb'
  have hr:(p :: r).length = r.length + 1:=rfl
  have hlt:Nat.blt i l.length = true:=by rw [blt_eq];simp;omega
  have hs:wrapF .i64 (Int.add (Int.ofNat i) 1) = Int.ofNat (i + 1):=wrapS i (by omega)
  have hpl:=plc_lt hn0 ((p:Int) * m + b)
  have hk:2 ^ plc n ((p:Int) * m + b) < 2 ^ n:=Nat.pow_lt_pow_right (by omega) hpl
  have hz2:z ||| 2 ^ plc n ((p:Int) * m + b) < 2 ^ n:=Nat.or_lt_two_pow hz hk
  have ih:=moved49_loop pu L hn0 hn hm hm2 hb hb2 hl hl2 r w (i + 1) _ hd2 (by omega) (by omega) hz2
  have b1:-3200≤(p:Int) * m:=by
   have:(p:Int) * (-100)≤(p:Int) * m:=Int.mul_le_mul_of_nonneg_left hm (by omega)
   omega
  have b2:(p:Int) * m≤3200:=by
   have:(p:Int) * m≤(p:Int) * 100:=Int.mul_le_mul_of_nonneg_left hm2 (by omega)
   omega
  have hne:ieq (Int.ofNat n) 0 = false:=by rw [show (0:Int) = Int.ofNat 0 from rfl,ieq_nat];exact beq_ne (by omega)
  have e1:wrapF .i64 (Int.mul (Int.ofNat p) m) = (p:Int) * m:=wrapI _ (by show _≤(p:Int) * m;omega) (by show (p:Int) * m≤_;omega)
  have e2:=rem2 hn0 (by omega) (x:=(p:Int) * m + b) (by omega) (by omega)
  unfold b49_1
  rw [ilt_nat,hlt,bb_true,show toN (Int.ofNat i) = some i from rfl,oo_some]
  show bb (an (Nat.blt i l.length) true) _ none = _
  rw [hlt,show an true true = true from rfl,bb_true]
  show oo (nthL (vL l) (i * 1)) none _ = _
  rw [vL_get hd,oo_some,show toI .i64 (IV (Int.ofNat p)) = some (Int.ofNat p) from rfl,oo_some,hne,show nt false = true from rfl,bb_true,bb_true,e1]
  show oo (toN (Int.tmod (wrapF .i64 (Int.add (Int.tmod (wrapF .i64 ((p:Int) * m + b)) (Int.ofNat n)) (Int.ofNat n))) (Int.ofNat n))) none _ = _
  rw [e2,show ∀ j,toN (Int.ofNat j) = some j from fun _=>rfl,oo_some,shl32 (by omega),aor32 (lt32 (by omega) hz) (lt32 (by omega) hk),hs,ih];rfl
theorem p49 (k:Nat) (args:List Value):puN (k + 1) 49 args = m49 (puN k) L args:=by kernel_rfl
theorem marks_len {n s:Nat}:(marksN n s).length≤n:=markF_len s n 0
theorem pu_moved (k : Nat) {n s : Nat} (hn0 : 0 < n) (hn : n ≤ 21) (hs : s < 2 ^ n) {m b : Int} (hm : -100 ≤ m) (hm2 : m ≤ 100) (hb : -100000000 ≤ b) (hb2 : b ≤ 100000000) :
 puN (k + 2) 49 [IV (Int.ofNat n),U s,IV m,IV b] = some (U (setOf (fun p=>plc n ((p:Int) * m + b)) (marksN n s) 0)):=by
 have hs32:=lt32 (by omega) hs
 have hl:=marks_len (n:=n) (s:=s)
 rw [p49]
 show oo (puN (k + 1) 48 [U s]) none _ = _
 rw [pu_marks48,oo_some,marks_more hs32 hs hn]
 exact moved49_loop (puN (k + 1)) L hn0 hn hm hm2 hb hb2 (fun x hx=>by have:=(mem_marks hs32).1 hx;omega) (by omega) _ L 0 0 (List.drop_zero) (by show _ < 1000000;omega) (by omega) (Nat.two_pow_pos n)
theorem pu_turned1 (k : Nat) {n s : Nat} (hn0 : 0 < n) (hn : n ≤ 21) (hs : s < 2 ^ n) {b : Int} (hb : -100000000 ≤ b) (hb2 : b ≤ 100000000) :
 puN (k + 2) 49 [IV (Int.ofNat n),U s,IV 1,IV b] = some (U (turnN n s (plc n b))):=by
 rw [pu_moved k hn0 hn hs (by omega) (by omega) hb hb2,←turn_moved hn0 (by omega) hs]
 simp only [Int.mul_one]
theorem markF_add (s : Nat) : ∀ (a b p : Nat), markF s (a + b) p = markF s a p ++ markF s b (p + a)
 | 0,b,p=>by rw [Nat.zero_add];rfl
 | a + 1, b, p => by
  rw [show a + 1 + b = (a + b) + 1 by omega]
  show (bif hasB s p then p :: markF s (a + b) (p + 1) else markF s (a + b) (p + 1)) = (bif hasB s p then p :: markF s a (p + 1) else markF s a (p + 1)) ++ markF s b (p + (a + 1))
  rw [markF_add s a b (p + 1),show p + 1 + a = p + (a + 1) by omega]
  cases hasB s p <;> rfl
theorem markF_shift {s : Nat} (hs : s < 4294967296) (d : Nat) : ∀ (k p : Nat), p + k ≤ 8 → (markF s k (p + d)).length = (markF (s / 2 ^ d % 256) k p).length
 | 0,_,_=>rfl
 | k + 1, p, h => by
  have e:hasB s (p + d) = hasB (s / 2 ^ d % 256) p:=by
   rw [hasB_eq hs,hasB_eq (Nat.lt_of_lt_of_le (Nat.mod_lt _ (by omega)) (by omega)),show (256:Nat) = 2 ^ 8 from rfl,Nat.testBit_mod_two_pow,←Nat.shiftRight_eq_div_pow,Nat.testBit_shiftRight]
   simp [show p < 8 by omega,Nat.add_comm]
  have ih:=markF_shift hs d k (p + 1) (by omega)
  rw [show p + 1 + d = p + d + 1 by omega] at ih
  unfold markF
  rw [e]
  cases hasB (s / 2 ^ d % 256) p with
  | true=>show (markF s k (p + d + 1)).length + 1 = (markF _ k (p + 1)).length + 1;rw [ih]
  | false=>exact ih
noncomputable def popB (b:Nat):Option Nat:=oo (str0[b]?) none fun c=>some c.toNat
theorem pop_tab:mapL popB (List.range 256) = mapL (fun b=>some (len (markF b 8 0))) (List.range 256):=by kernel_rfl
theorem mapL_eq' {α β:Type} (f:α→β) (l:List α):mapL f l = l.map f:=by
 induction l with
 | nil=>rfl
 | cons x l ih=>show f x :: mapL f l = _;rw [ih];rfl
theorem pop_at {b:Nat} (hb:b < 256):∃ c,str0[b]? = some c∧c.toNat = (markF b 8 0).length:=by
 have h:=congrArg (fun l:List (Option Nat)=>l[b]?) pop_tab
 simp only [mapL_eq',List.getElem?_map,List.getElem?_range hb,Option.map_some,len_eq] at h
 injection h with h
 obtain ⟨c,h1,h2⟩:=oo_inv (show oo (str0[b]?) none (fun c=>some c.toNat) = some _ from h)
 injection h2 with h2
 exact ⟨c,h1,h2⟩
theorem p50 (k:Nat) (args:List Value):puN (k + 1) 50 args = m50 (puN k) L args:=by kernel_rfl
theorem wrap8 {a:Nat} (ha:a < 256):wrapF .u8 (Int.ofNat a) = Int.ofNat a:=by
 show Int.ofNat (a % 256) = _
 rw [Nat.mod_eq_of_lt ha]
theorem and255 {a:Nat} (ha:a < 4294967296):aand .u32 (Int.ofNat a) (255:Int) = Int.ofNat (a % 256):=by
 rw [show (255:Int) = Int.ofNat 255 from rfl,aand32 ha (by omega),show (255:Nat) = 2 ^ 8 - 1 from rfl,Nat.and_two_pow_sub_one_eq_mod]
theorem markF_len8 (b:Nat):(markF b 8 0).length≤8:=markF_len b 8 0
theorem pu_ones (k:Nat) {s:Nat} (hs:s < 4294967296):puN (k + 1) 50 [U s] = some (IV (Int.ofNat (marksN 32 s).length)):=by
 rw [p50]
 show m50_ (puN k) L (Int.ofNat s) = _
 unfold m50_
 have d1:s / 2 ^ 16 < 4294967296:=Nat.lt_of_le_of_lt (Nat.div_le_self _ _) hs
 have d2:s / 2 ^ 8 < 4294967296:=Nat.lt_of_le_of_lt (Nat.div_le_self _ _) hs
 have d3:s / 2 ^ 24 < 256:=by omega
 obtain ⟨c0,g0,n0⟩:=pop_at d3
 obtain ⟨c1,g1,n1⟩:=pop_at (b:=s / 2 ^ 16 % 256) (Nat.mod_lt _ (by omega))
 obtain ⟨c2,g2,n2⟩:=pop_at (b:=s / 2 ^ 8 % 256) (Nat.mod_lt _ (by omega))
 obtain ⟨c3,g3,n3⟩:=pop_at (b:=s % 256) (Nat.mod_lt _ (by omega))
 rw [shr32 hs,shr32 hs,shr32 hs,and255 d1,and255 d2,and255 hs]
 show oo (str0[s / 2 ^ 24]?) none _ = _
 rw [g0,oo_some]
 show oo (str0[s / 2 ^ 16 % 256]?) none _ = _
 rw [g1,oo_some]
 show oo (str0[s / 2 ^ 8 % 256]?) none _ = _
 rw [g2,oo_some]
 show oo (str0[s % 256]?) none _ = _
 rw [g3,oo_some,n0,n1,n2,n3]
 have l0:=markF_len8 (s / 2 ^ 24)
 have l1:=markF_len8 (s / 2 ^ 16 % 256)
 have l2:=markF_len8 (s / 2 ^ 8 % 256)
 have l3:=markF_len8 (s % 256)
 show some (IV (wrapF .i64 (wrapF .u8 (Int.add (wrapF .u8 (Int.add (wrapF .u8 (Int.ofNat ((markF (s / 2 ^ 24) 8 0).length + (markF (s / 2 ^ 16 % 256) 8 0).length))) _)) _)))) = _
 rw [wrap8 (by omega)]
 show some (IV (wrapF .i64 (wrapF .u8 (Int.add (wrapF .u8 (Int.ofNat ((markF (s / 2 ^ 24) 8 0).length + (markF (s / 2 ^ 16 % 256) 8 0).length + (markF (s / 2 ^ 8 % 256) 8 0).length))) _)))) = _
 rw [wrap8 (by omega)]
 show some (IV (wrapF .i64 (wrapF .u8 (Int.ofNat ((markF (s / 2 ^ 24) 8 0).length + (markF (s / 2 ^ 16 % 256) 8 0).length + (markF (s / 2 ^ 8 % 256) 8 0).length + (markF (s % 256) 8 0).length))))) = _
 have e:(marksN 32 s).length = (markF (s / 2 ^ 24) 8 0).length + (markF (s / 2 ^ 16 % 256) 8 0).length + (markF (s / 2 ^ 8 % 256) 8 0).length + (markF (s % 256) 8 0).length:=by
  show (markF s (8 + (8 + (8 + 8))) 0).length = _
  rw [markF_add,markF_add,markF_add]
  simp only [List.length_append]
  have q0:=markF_shift hs 0 8 0 (by omega)
  have q1:=markF_shift hs 8 8 0 (by omega)
  have q2:=markF_shift hs 16 8 0 (by omega)
  have q3:=markF_shift hs 24 8 0 (by omega)
  rw [Nat.pow_zero,Nat.div_one] at q0
  rw [show s / 2 ^ 24 % 256 = s / 2 ^ 24 from Nat.mod_eq_of_lt d3] at q3
  simp only [Nat.zero_add] at q0 q1 q2 q3
  show (markF s 8 0).length + ((markF s 8 8).length + ((markF s 8 16).length + (markF s 8 24).length)) = _
  rw [q0,q1,q2,q3];omega
 generalize (markF (s / 2 ^ 24) 8 0).length = a0 at *
 generalize (markF (s / 2 ^ 16 % 256) 8 0).length = a1 at *
 generalize (markF (s / 2 ^ 8 % 256) 8 0).length = a2 at *
 generalize (markF (s % 256) 8 0).length = a3 at *
 rw [wrap8 (by omega),wrapI _ (by simp;omega) (by simp;omega),e]
end Go.RgP
set_option maxRecDepth 100000
set_option maxHeartbeats 4000000
namespace Go.RgP
open Go Go.Sp Go.RgAM
theorem on_any (pu:PureF) (L n s:Nat) (x:Int) (hn:0 < n) (hn2:n < 1000):m62 pu L [tv n s,IV x] = some (IV (Int.ofNat (plc n x))):=by
 show m62_ pu L (Int.ofNat n) (Int.ofNat s) x = _
 unfold m62_
 have e:ieq (Int.ofNat n) 0 = false:=by rw [show (0:Int) = Int.ofNat 0 from rfl,ieq_nat];exact beq_ne (by omega)
 rw [e]
 show some (IV (Int.tmod (wrapF .i64 (Int.tmod x (n:Int) + (n:Int))) (n:Int))) = some (IV ((plc n x:Nat):Int))
 have hp:(0:Int) < (n:Int):=by omega
 have g1:=Int.tmod_lt_of_pos x hp
 have g2:-(n:Int) < Int.tmod x n:=by
  have:=Int.lt_tmod_of_pos x hp;omega
 rw [wrapI _ (by omega) (by omega),Int.tmod_eq_emod_of_nonneg (by omega),plc_cast hn]
 have h3:Int.tmod x (n:Int) + (n:Int) = x + (n:Int) * (1 - Int.tdiv x n):=by
  have:=Int.mul_tdiv_add_tmod x (n:Int)
  rw [Int.mul_sub];omega
 rw [h3,Int.add_mul_emod_self_left]
theorem pu_on2 (k:Nat) {n s:Nat} {x:Int} (hn:0 < n) (hn2:n≤60):puN (k + 1) 62 [tv n s,IV x] = some (IV (Int.ofNat (plc n x))):=by
 rw [p62];exact on_any (puN k) L n s x hn (by omega)
theorem p65 (k:Nat) (args:List Value):puN (k + 1) 65 args = m65 (puN k) L args:=by kernel_rfl
theorem pu_turned (k:Nat) {n s b:Nat} (hn:n≤21) (hs:s < 2 ^ n) (hb:b < n):puN (k + 1) 65 [tv n s,IV (Int.ofNat b)] = some (tv n (turnN n s b)):=by
 rw [p65]
 show m65_ (puN k) L (Int.ofNat n) (Int.ofNat s) (Int.ofNat b) = _
 unfold m65_
 have hs32:=lt32 (by omega) hs
 have e1:wrapF .i64 (Int.sub (Int.ofNat n) (Int.ofNat b)) = Int.ofNat (n - b):=by
  show wrapF .i64 ((n:Int) - (b:Int)) = ((n - b:Nat):Int)
  rw [wrapI _ (by omega) (by omega)];omega
 have e2:wrapF .u32 (Int.sub (shlI .u32 (1:Int) n) (1:Int)) = Int.ofNat (2 ^ n - 1):=by
  have h1:2 ^ n < 4294967296:=Nat.lt_of_le_of_lt (Nat.pow_le_pow_right (by omega) hn) (by decide)
  have h2:=Nat.two_pow_pos n
  rw [shl32 (by omega),show Int.sub (Int.ofNat (2 ^ n)) 1 = Int.ofNat (2 ^ n - 1) from by show ((2 ^ n:Nat):Int) - 1 = ((2 ^ n - 1:Nat):Int);omega]
  exact wrap32 (by omega)
 have e3:shlI .u32 (Int.ofNat s) b = Int.ofNat ((s * 2 ^ b) % 4294967296):=by
  show wrapF .u32 (Int.ofNat (s * 2 ^ (min b 32))) = _
  rw [Nat.min_eq_left (by omega)];rfl
 have h4:(s * 2 ^ b) % 4294967296 < 4294967296:=Nat.mod_lt _ (by omega)
 have h5:s / 2 ^ (n - b) < 4294967296:=Nat.lt_of_le_of_lt (Nat.div_le_self _ _) hs32
 have h6:(s * 2 ^ b) % 4294967296 ||| s / 2 ^ (n - b) < 4294967296:=Nat.or_lt_two_pow (n:=32) h4 h5
 have h7:2 ^ n - 1 < 4294967296:=by
  have h1:2 ^ n < 4294967296:=Nat.lt_of_le_of_lt (Nat.pow_le_pow_right (by omega) hn) (by decide)
  omega
 show oo (toN (wrapF .i64 (Int.sub (Int.ofNat n) (Int.ofNat b)))) none (fun k3348=>some (Value.agg ⟨[(.int .i64 (Int.ofNat n)),(.int .u32 (aand .u32 (aor .u32 (shlI .u32 (Int.ofNat s) b) (shrI .u32 (Int.ofNat s) k3348)) (wrapF .u32 (Int.sub (shlI .u32 (1:Int) n) (1:Int)))))]⟩)) = _
 rw [e1,show ∀ j,toN (Int.ofNat j) = some j from fun _=>rfl,oo_some,e2,e3,shr32 hs32,aor32 h4 h5,aand32 h6 h7];rfl
theorem ret51 (pu:PureF) (L:Nat) (q:List Nat) (c:Nat):m51_0 pu L q.length c (vL q) = some (slv q):=by
 unfold m51_0
 rw [vL_closed,bb_true,fin_vL]
theorem apart_loop (k : Nat) {n s : Nat} (hn : n ≤ 21) (hs : s < 2 ^ n) : ∀ (j w d c : Nat) (q : List Nat), j < w → d + j = n → 0 < d → q.length = d - 1 → c / 2 = q.length → c % 2 = 0 →
 l51_1 (puN (k + 2)) L w (Int.ofNat n) (Int.ofNat s) q.length c (Int.ofNat d) (vL q) = some (slv (q ++ (List.range j).map fun i=>cntD n (marksN n s) (d + i)))
 | j,0,_,_,_,h,_,_,_,_,_=>by omega
 | 0, w + 1, d, c, q, _, hd, h0, _, _, _ => by
  show b51_1 (puN (k + 2)) L (l51_1 (puN (k + 2)) L w) (Int.ofNat n) (Int.ofNat s) q.length c (Int.ofNat d) (vL q) = _
  unfold b51_1
  rw [vL_closed,bb_true,ilt_nat,show Nat.blt d n = false from by rw [blt_eq];simp;omega,bb_false,ret51]
  show _ = some (slv (q ++ []))
  rw [List.append_nil]
 | j + 1, w + 1, d, c, q, hw, hd, h0, hq, hc, hc2 => by
  show b51_1 (puN (k + 2)) L (l51_1 (puN (k + 2)) L w) (Int.ofNat n) (Int.ofNat s) q.length c (Int.ofNat d) (vL q) = _
  have hs32:=lt32 (by omega) hs
  have hand:s &&& turnN n s d < 4294967296:=Nat.lt_of_le_of_lt Nat.and_le_left hs32
  unfold b51_1
  rw [vL_closed,bb_true,ilt_nat,show Nat.blt d n = true from by rw [blt_eq];simp;omega,bb_true]
  have hmv:puN (k + 2) 49 [(.int .i64 (Int.ofNat n)),(.int .u32 (Int.ofNat s)),(.int .i64 (1:Int)),(.int .i64 (Int.ofNat d))] = some (U (turnN n s d)):=by
   have:=pu_turned1 k (n:=n) (s:=s) (by omega) hn hs (b:=(d:Int)) (by omega) (by omega)
   rw [show plc n (d:Int) = d from by rw [plc_nat];exact Nat.mod_eq_of_lt (by omega)] at this
   exact this
  have hon:puN (k + 2) 50 [.int .u32 (Int.ofNat (s &&& turnN n s d))] = some (IV (Int.ofNat (cntD n (marksN n s) d))):=by
   have:=pu_ones (k + 1) hand
   rw [common_cnt (by omega) hs h0 (by omega) (by omega)] at this;exact this
  rw [hmv,oo_some]
  show oo (puN (k + 2) 50 [.int .u32 (aand .u32 (Int.ofNat s) (Int.ofNat (turnN n s d)))]) none _ = _
  rw [aand32 hs32 (lt32 (n:=n) (by omega) turn_lt),hon,oo_some]
  show bb (growC 1 8 q.length c 1 (vL q)) (bb (allL closed1 (appL (dropL 0 (vL q)) [.int .i64 (Int.ofNat (cntD n (marksN n s) d))])) (l51_1 (puN (k + 2)) L w (Int.ofNat n) (Int.ofNat s) (q.length + 1) (2 * (q.length + 1) + bb false 1 0) (wrapF .i64 (Int.add (Int.ofNat d) (1:Int))) (appL (dropL 0 (vL q)) [.int .i64 (Int.ofNat (cntD n (marksN n s) d))])) none) none = _
  rw [grow_vL (by omega) hc hc2,bb_true,vL_snoc,vL_closed,bb_true,wrapS d (by omega)]
  have ih:=apart_loop k hn hs j w (d + 1) (2 * (q.length + 1) + bb false 1 0) (q ++ [cntD n (marksN n s) d]) (by omega) (by omega) (by omega) (by simp;omega) (by simp) (by simp)
  rw [List.length_append,show [cntD n (marksN n s) d].length = 1 from rfl] at ih
  rw [ih,List.append_assoc,List.range_succ_eq_map,List.map_cons,List.map_map]
  congr 4
  show [cntD n (marksN n s) d] ++ _ = _
  rw [List.singleton_append,Nat.add_zero]
  congr 1
  apply List.map_congr_left
  intro i _
  show cntD n (marksN n s) (d + 1 + i) = cntD n (marksN n s) (d + (i + 1))
  rw [show d + 1 + i = d + (i + 1) by omega]
theorem p51 (k:Nat) (args:List Value):puN (k + 1) 51 args = m51 (puN k) L args:=by kernel_rfl
theorem pu_apart (k:Nat) {n s:Nat} (hn0:0 < n) (hn:n≤21) (hs:s < 2 ^ n):puN (k + 3) 51 [IV (Int.ofNat n),U s] = some (slv (dists n (marksN n s))):=by
 rw [p51]
 have h:=apart_loop k hn hs (n - 1) L 1 0 [] (by show n - 1 < 1000000;omega) (by omega) (by omega) rfl rfl rfl
 show l51_1 (puN (k + 2)) L L (Int.ofNat n) (Int.ofNat s) 0 0 (1:Int) (vL []) = _
 have e:(List.range (n - 1)).map (fun i=>cntD n (marksN n s) (1 + i)) = dists n (marksN n s):=by
  unfold dists
  apply List.map_congr_left
  intro i _
  rw [Nat.add_comm]
 rw [List.nil_append,e] at h
 exact h
def iLI (l:List Int):List Value:=l.map IV
theorem vL_iLI (l:List Nat):vL l = iLI (l.map Int.ofNat):=by unfold vL iLI;rw [List.map_map];rfl
theorem iLI_get {l:List Int} {i:Nat} {b:Int} {r:List Int} (h:l.drop i = b :: r):nthL (iLI l) (i * 1) = some (IV b):=by
 rw [nthL_eq,Nat.mul_one]
 have:l[i]? = some b:=by
  have:=congrArg List.head? h
  rw [List.head?_drop] at this;exact this
 unfold iLI
 rw [List.getElem?_map,this];rfl
theorem dropI_next {l:List Int} {i:Nat} {b:Int} {r:List Int} (h:l.drop i = b :: r):l.drop (i + 1) = r∧i < l.length∧b ∈ l:=by
 refine ⟨?_,?_,?_⟩
 ·rw [←List.drop_drop,h];rfl
 ·have := congrArg List.length h
  simp at this;omega
 ·have : b ∈ l.drop i := by rw [h]; exact List.mem_cons_self
  exact List.mem_of_mem_drop this
noncomputable def chk (n : Int) : List Int → Int → Int
 | [],_=>0
 | m :: r,last=>bif ilt m 0 then 2 else bif nt (ilt m n) then 2 else bif nt (ilt last m) then 7 else chk n r m
noncomputable def checkI (n:Int) (l:List Int):Int:=bif ilt n 1 then 1 else bif ilt 21 n then 1 else bif Nat.blt 6 l.length then 3 else chk n l (-1)
theorem same_loop (pu : PureF) (L : Nat) {a b : List Int} (hab : a.length = b.length) (ha : a.length < 900000) (f1 f2 : Nat) : ∀ (r r' : List Int) (w i : Nat), a.drop i = r → b.drop i = r' → r.length < w → i ≤ a.length →
 l23_1 pu L w ⟨a.length,f1,iLI a⟩ ⟨b.length,f2,iLI b⟩ (Int.ofNat i) = some (.bool (decide (r = r')))
 | _,_,0,_,_,_,h,_=>by omega
 | [], r', w + 1, i, hd, hd', _, hi => by
  show b23_1 pu L (l23_1 pu L w) ⟨a.length,f1,iLI a⟩ ⟨b.length,f2,iLI b⟩ (Int.ofNat i) = _
  have h1:a.length≤i:=List.drop_eq_nil_iff.1 hd
  have h2:r' = []:=by rw [←hd'];exact List.drop_eq_nil_iff.2 (by omega)
  subst h2
  unfold b23_1
  show bb (ilt (Int.ofNat i) (Int.ofNat a.length)) _ _ = _
  rw [ilt_nat,show Nat.blt i a.length = false from by rw [blt_eq];simp;omega];simp;rfl
 | x :: r, r', w + 1, i, hd, hd', hw, hi => by
  show b23_1 pu L (l23_1 pu L w) ⟨a.length,f1,iLI a⟩ ⟨b.length,f2,iLI b⟩ (Int.ofNat i) = _
  obtain ⟨hd2,hi2,_⟩:=dropI_next hd
  cases r' with
  | nil =>
   have h1:b.length≤i:=List.drop_eq_nil_iff.1 hd'
   omega
  | cons y r' =>
   obtain ⟨hd3,_,_⟩:=dropI_next hd'
   have hr:(x :: r).length = r.length + 1:=rfl
   have hlt:Nat.blt i a.length = true:=by rw [blt_eq];simp;omega
   have hlt2:Nat.blt i b.length = true:=by rw [blt_eq];simp;omega
   have ih:=same_loop pu L hab ha f1 f2 r r' w (i + 1) hd2 hd3 (by omega) (by omega)
   unfold b23_1
   show bb (ilt (Int.ofNat i) (Int.ofNat a.length)) (oo (toN (Int.ofNat i)) none fun k=>bb (an (Nat.blt k a.length) true) (oo (nthL (iLI a) (k * 1)) none fun v=>oo (toI .i64 v) none fun x1=>bb (an (Nat.blt k b.length) true) (oo (nthL (iLI b) (k * 1)) none fun v=>oo (toI .i64 v) none fun x2=>bb (nt (ieq x1 x2)) (some (.bool false)) (l23_1 pu L w ⟨a.length,f1,iLI a⟩ ⟨b.length,f2,iLI b⟩ (wrapF .i64 (Int.add (Int.ofNat k) (1:Int))))) none) none) (m23_0 pu L) = _
   rw [ilt_nat, hlt, bb_true, show toN (Int.ofNat i) = some i from rfl, oo_some, hlt, show an true true = true from rfl, bb_true, iLI_get hd, oo_some, show ∀ z, toI .i64 (IV z) = some z from fun _ => rfl, oo_some, hlt2, show an true true = true from rfl, bb_true, iLI_get hd', oo_some,
    show ∀ z,toI .i64 (IV z) = some z from fun _=>rfl,oo_some,wrapS i (by omega),ih,ieq_eq]
   by_cases h:x = y
   ·subst h;simp
   ·have hxy : (x == y) = false := by simpa using h
    have hc:¬ (x :: r = y :: r'):=fun e=>h (by injection e)
    rw [hxy,decide_eq_false hc];rfl
theorem p23 (k:Nat) (args:List Value):puN (k + 1) 23 args = m23 (puN k) L args:=by kernel_rfl
noncomputable def slI (f:Nat) (l:List Int):Value:=Sl.v 1 ⟨l.length,f,iLI l⟩
theorem pu_same (k f1 f2:Nat) {a b:List Int} (ha:a.length < 900000):puN (k + 1) 23 [slI f1 a,slI f2 b] = some (.bool (decide (a = b))):=by
 rw [p23]
 show bb (nt (ieq (Int.ofNat a.length) (Int.ofNat b.length))) (some (.bool false)) (l23_1 (puN k) L L ⟨a.length,f1,iLI a⟩ ⟨b.length,f2,iLI b⟩ (0:Int)) = _
 rw [ieq_nat,beq_dec]
 by_cases h:a.length = b.length
 ·rw [decide_eq_true h, show nt true = false from rfl, bb_false]
  exact same_loop (puN k) L h ha f1 f2 a b L 0 (List.drop_zero) (List.drop_zero) (by show _ < 1000000;omega) (by omega)
 ·have : ¬ a = b := fun e => h (by rw [e])
  rw [decide_eq_false h,decide_eq_false this];rfl
theorem slv_slI (l:List Nat):slv l = slI 0 (l.map Int.ofNat):=by unfold slv slI;rw [vL_iLI,List.length_map]
theorem map_ofNat_inj {a b:List Nat}:a.map Int.ofNat = b.map Int.ofNat↔a = b:=by
 constructor
 ·intro h
  have:=congrArg (List.map Int.toNat) h
  simpa [List.map_map,Function.comp_def] using this
 ·rintro rfl;rfl
theorem pu_sameN (k:Nat) {a b:List Nat} (ha:a.length < 900000):puN (k + 1) 23 [slv a,slv b] = some (.bool (decide (a = b))):=by
 rw [slv_slI,slv_slI,pu_same k 0 0 (by simpa using ha)]
 congr 2
 exact decide_eq_decide.2 map_ofNat_inj
theorem check_loop (pu : PureF) (L : Nat) {n : Int} {l : List Int} (hl : l.length < 900000) (f f' : Nat) (l' : List Value) (m' : Nat) : ∀ (r : List Int) (w i : Nat) (last : Int), l.drop i = r → r.length < w → i ≤ l.length →
 l25_2 pu L w last ⟨l.length,f,iLI l⟩ (Int.ofNat l.length) (Int.ofNat i) n ⟨m',f',l'⟩ = some (IV (chk n r last))
 | _,0,_,_,_,h,_=>by omega
 | [], w + 1, i, last, hd, _, hi => by
  show b25_2 pu L (l25_2 pu L w) last ⟨l.length,f,iLI l⟩ (Int.ofNat l.length) (Int.ofNat i) n ⟨m',f',l'⟩ = _
  have h1:l.length≤i:=List.drop_eq_nil_iff.1 hd
  unfold b25_2
  rw [ilt_nat,show Nat.blt i l.length = false from by rw [blt_eq];simp;omega];rfl
 | x :: r, w + 1, i, last, hd, hw, hi => by
  show b25_2 pu L (l25_2 pu L w) last ⟨l.length,f,iLI l⟩ (Int.ofNat l.length) (Int.ofNat i) n ⟨m',f',l'⟩ = _
  obtain ⟨hd2,hi2,_⟩:=dropI_next hd
  have hr:(x :: r).length = r.length + 1:=rfl
  have hlt:Nat.blt i l.length = true:=by rw [blt_eq];simp;omega
  have ih:=check_loop pu L (n:=n) hl f f' l' m' r w (i + 1) x hd2 (by omega) (by omega)
  unfold b25_2
  rw [ilt_nat,hlt,bb_true,show toN (Int.ofNat i) = some i from rfl,oo_some]
  show bb (an (Nat.blt i l.length) true) (oo (nthL (iLI l) (i * 1)) none _) none = _
  rw [hlt,show an true true = true from rfl,bb_true,iLI_get hd,oo_some,show ∀ z,toI .i64 (IV z) = some z from fun _=>rfl,oo_some]
  show bb (ilt x 0) (bb true (some (IV 2)) _) (bb (nt (ilt x n)) (some (IV 2)) (bb (nt (ilt last x)) (some (IV 7)) (l25_2 pu L w x ⟨l.length,f,iLI l⟩ (Int.ofNat l.length) (wrapF .i64 (Int.add (Int.ofNat i) (1:Int))) n ⟨m',f',l'⟩))) = some (IV (bif ilt x 0 then 2 else bif nt (ilt x n) then 2 else bif nt (ilt last x) then 7 else chk n r x))
  rw [wrapS i (by omega),ih]
  cases ilt x 0 <;> cases nt (ilt x n) <;> cases nt (ilt last x) <;> rfl
theorem p25 (k:Nat) (args:List Value):puN (k + 1) 25 args = m25 (puN k) L args:=by kernel_rfl
theorem pu_check (k f:Nat) (n:Int) {l:List Int} (hl:l.length < 900000):puN (k + 1) 25 [.agg ⟨[IV n,slI f l]⟩] = some (IV (checkI n l)):=by
 rw [p25]
 show bb (ilt n 1) (m25_0 (puN k) L true n ⟨l.length,f,iLI l⟩) (m25_0 (puN k) L (ilt 21 n) n ⟨l.length,f,iLI l⟩) = _
 have h:=check_loop (puN k) L (n:=n) hl f f (iLI l) l.length l L 0 (-1) List.drop_zero (by show _ < 1000000;omega) (by omega)
 have h0:∀ b,m25_0 (puN k) L b n ⟨l.length,f,iLI l⟩ = some (IV (bif b then 1 else bif Nat.blt 6 l.length then 3 else chk n l (-1))):=fun b=>by
  show bb b (some (IV 1)) (bb (ilt (6:Int) (Int.ofNat l.length)) (some (IV 3)) (l25_2 (puN k) L L (-1:Int) ⟨l.length,f,iLI l⟩ (Int.ofNat l.length) (0:Int) n ⟨l.length,f,iLI l⟩)) = _
  have h:l25_2 (puN k) L L (-1:Int) ⟨l.length,f,iLI l⟩ (Int.ofNat l.length) (0:Int) n ⟨l.length,f,iLI l⟩ = some (IV (chk n l (-1))):=h
  rw [h,show (6:Int) = Int.ofNat 6 from rfl,ilt_nat]
  cases b <;> cases Nat.blt 6 l.length <;> rfl
 rw [h0,h0]
 unfold checkI
 cases ilt n 1 <;> cases ilt 21 n <;> rfl
theorem chk_ok {n : Nat} : ∀ {m : List Nat} {last : Int}, -1 ≤ last → m.Pairwise (· < ·) → (∀ x ∈ m, x < n) → (∀ x ∈ m, last < (x : Int)) → chk (Int.ofNat n) (m.map Int.ofNat) last = 0
 | [],_,_,_,_,_=>rfl
 | x :: m, last, hl, h1, h2, h3 => by
  obtain ⟨p1,p2⟩:=List.pairwise_cons.1 h1
  have a1:=h2 x List.mem_cons_self
  have a2:=h3 x List.mem_cons_self
  show (bif ilt (x:Int) 0 then (2:Int) else bif nt (ilt (x:Int) (n:Int)) then 2 else bif nt (ilt last (x:Int)) then 7 else chk (Int.ofNat n) (m.map Int.ofNat) (x:Int)) = 0
  rw [ilt_eq,ilt_eq,ilt_eq,decide_eq_false (show ¬ (x:Int) < 0 by omega),decide_eq_true (show (x:Int) < (n:Int) by omega),decide_eq_true a2]
  exact chk_ok (by omega) p2 (fun y hy=>h2 y (List.mem_cons_of_mem _ hy)) fun y hy=>by have:=p1 y hy;omega
theorem checkI_ok {n:Nat} {m:List Nat} (hn0:0 < n) (hn:n≤21) (hl:m.length≤6) (h1:m.Pairwise (· < ·)) (h2:∀ x ∈ m,x < n):checkI (Int.ofNat n) (m.map Int.ofNat) = 0:=by
 show (bif ilt (Int.ofNat n) (Int.ofNat 1) then (1:Int) else bif ilt (Int.ofNat 21) (Int.ofNat n) then 1 else bif Nat.blt 6 (m.map Int.ofNat).length then 3 else chk (Int.ofNat n) (m.map Int.ofNat) (-1)) = 0
 rw [ilt_nat,ilt_nat,blt_eq,blt_eq,blt_eq,List.length_map,decide_eq_false (by omega),decide_eq_false (by omega),decide_eq_false (by omega)]
 exact chk_ok (last:=-1) (Int.le_refl _) h1 h2 fun x _=>by omega
def bitsOf (l:List Nat):Nat:=setOf (fun p=>p) l 0
theorem bitsOf_bit (l:List Nat) (q:Nat):(bitsOf l).testBit q = decide (q ∈ l):=by
 unfold bitsOf
 rw [setOf_bit,Nat.zero_testBit,Bool.false_or,Bool.eq_iff_iff]
 simp only [List.any_eq_true,decide_eq_true_eq]
 exact ⟨fun ⟨p,hp,e⟩=>e ▸ hp,fun h=>⟨q,h,rfl⟩⟩
theorem bitsOf_lt {n:Nat} {l:List Nat} (h:∀ x ∈ l,x < n):bitsOf l < 2 ^ n:=setOf_lt _ (Nat.two_pow_pos n) h
theorem marks_bitsOf {n:Nat} (hn:n≤31) {l:List Nat} (h1:l.Pairwise (· < ·)) (h2:∀ x ∈ l,x < n):marksN n (bitsOf l) = l:=by
 have h:=lt32 hn (bitsOf_lt h2)
 refine sorted_ext (marks_sorted h) h1 fun x=>?_
 rw [mem_marks h,bitsOf_bit,decide_eq_true_eq]
 exact ⟨fun h=>h.2,fun h=>⟨h2 x h,h⟩⟩
theorem bitsOf_marks {n s:Nat} (hn:n≤31) (hs:s < 2 ^ n):bitsOf (marksN n s) = s:=by
 have hs32:=lt32 hn hs
 refine set_ext (n:=n) (bitsOf_lt fun x hx=>((mem_marks hs32).1 hx).1) hs fun q hq=>?_
 rw [bitsOf_bit,Bool.eq_iff_iff,decide_eq_true_eq,mem_marks hs32]
 exact ⟨fun h=>h.2,fun h=>⟨hq,h⟩⟩
theorem made_loop (pu : PureF) (L n : Nat) {l : List Nat} (hl : ∀ x ∈ l, x < 31) (hl2 : l.length < 900000) (f : Nat) (a b : Int) : ∀ (r : List Nat) (w i z : Nat), l.drop i = r → r.length < w → i ≤ l.length → z < 2 ^ 31 →
 l96_1 pu L w ⟨l.length,f,vL l⟩ (Int.ofNat l.length) (Int.ofNat i) a b (Int.ofNat n) (Int.ofNat z) = some (tv n (setOf (fun p=>p) r z))
 | _,0,_,_,_,h,_,_=>by omega
 | [], w + 1, i, z, hd, _, hi, _ => by
  show b96_1 pu L (l96_1 pu L w) ⟨l.length,f,vL l⟩ (Int.ofNat l.length) (Int.ofNat i) a b (Int.ofNat n) (Int.ofNat z) = _
  have:l.length≤i:=List.drop_eq_nil_iff.1 hd
  unfold b96_1
  rw [ilt_nat,show Nat.blt i l.length = false from by rw [blt_eq];simp;omega];rfl
 | p :: r, w + 1, i, z, hd, hw, hi, hz => by
  show b96_1 pu L (l96_1 pu L w) ⟨l.length,f,vL l⟩ (Int.ofNat l.length) (Int.ofNat i) a b (Int.ofNat n) (Int.ofNat z) = _
  obtain ⟨hd2,hi2,hb'⟩:=drop_next hd
  have hp:=hl p hb'
  have hr:(p :: r).length = r.length + 1:=rfl
  have hlt:Nat.blt i l.length = true:=by rw [blt_eq];simp;omega
  have hk:2 ^ p < 2 ^ 31:=Nat.pow_lt_pow_right (by omega) hp
  have hz2:z ||| 2 ^ p < 2 ^ 31:=Nat.or_lt_two_pow hz hk
  have ih:=made_loop pu L n hl hl2 f a b r w (i + 1) _ hd2 (by omega) (by omega) hz2
  unfold b96_1
  rw [ilt_nat,hlt,bb_true,show toN (Int.ofNat i) = some i from rfl,oo_some]
  show bb (an (Nat.blt i l.length) true) (oo (nthL (vL l) (i * 1)) none _) none = _
  rw [hlt,show an true true = true from rfl,bb_true,vL_get hd,oo_some,show toI .i64 (IV (Int.ofNat p)) = some (Int.ofNat p) from rfl,oo_some,show toN (Int.ofNat p) = some p from rfl,oo_some,shl32 (by omega),aor32 (by omega) (by omega),wrapS i (by omega),ih];rfl
theorem p96 (k:Nat) (args:List Value):puN (k + 1) 96 args = m96 (puN k) L args:=by kernel_rfl
theorem pu_made (k n f:Nat) {l:List Nat} (hl:∀ x ∈ l,x < 31) (hl2:l.length < 900000):puN (k + 1) 96 [IV (Int.ofNat n),Sl.v 1 ⟨l.length,f,vL l⟩] = some (tv n (bitsOf l)):=by
 rw [p96]
 exact made_loop (puN k) L n hl hl2 f 0 0 l L 0 0 List.drop_zero (by show _ < 1000000;omega) (by omega) (by omega)
theorem p61 (k:Nat) (args:List Value):puN (k + 1) 61 args = m61 (puN k) L args:=by kernel_rfl
noncomputable def tup2 (a b:Value):Value:=.tuple ⟨[a,b]⟩
theorem pu_opened (k f:Nat) {n:Nat} {l:List Nat} (hn0:0 < n) (hn:n≤21) (hl:l.length≤6) (h1:l.Pairwise (· < ·)) (h2:∀ x ∈ l,x < n):puN (k + 2) 61 [.agg ⟨[IV (Int.ofNat n),Sl.v 1 ⟨l.length,f,vL l⟩]⟩] = some (tup2 (tv n (bitsOf l)) (IV 0)):=by
 rw [p61]
 show oo (puN (k + 1) 25 [.agg ⟨[IV (Int.ofNat n),Sl.v 1 ⟨l.length,f,vL l⟩]⟩]) none _ = _
 have hc:=pu_check k f (Int.ofNat n) (l:=l.map Int.ofNat) (by simp;omega)
 rw [checkI_ok hn0 hn hl h1 h2] at hc
 rw [show Sl.v 1 ⟨l.length,f,vL l⟩ = slI f (l.map Int.ofNat) from by unfold slI;rw [vL_iLI,List.length_map],hc,oo_some]
 show oo (puN (k + 1) 96 [IV (Int.ofNat n),slI f (l.map Int.ofNat)]) none _ = _
 have hm:=pu_made k n f (l:=l) (fun x hx=>by have:=h2 x hx;omega) (by omega)
 rw [show slI f (l.map Int.ofNat) = Sl.v 1 ⟨l.length,f,vL l⟩ from by unfold slI;rw [vL_iLI,List.length_map],hm];rfl
end Go.RgP
set_option maxRecDepth 100000
set_option maxHeartbeats 4000000
namespace Go.RgP
open Go Go.Sp Go.RgAM
structure Good (n:Nat) (l:List Nat):Prop where
 pos:0 < n
 le:n≤21
 few:l.length≤6
 up:l.Pairwise (· < ·)
 lt:∀ x ∈ l,x < n
noncomputable def seaF (n f:Nat) (l:List Nat):Value:=.agg ⟨[IV (Int.ofNat n),Sl.v 1 ⟨l.length,f,vL l⟩]⟩
theorem dists_len (n:Nat) (l:List Nat):(dists n l).length = n - 1:=by unfold dists;simp
theorem Good.lt32 {n:Nat} {l:List Nat} (h:Good n l):bitsOf l < 4294967296:=Go.RgP.lt32 (n:=n) (by have:=h.le;omega) (bitsOf_lt h.lt)
theorem Good.marks {n:Nat} {l:List Nat} (h:Good n l):marksN n (bitsOf l) = l:=marks_bitsOf (by have:=h.le;omega) h.up h.lt
theorem pu_dists (k:Nat) {n:Nat} {l:List Nat} (h:Good n l):puN (k + 4) 74 [tv n (bitsOf l)] = some (slv (dists n l)):=by
 have h2:=h.le
 have:=pu_dist k (n:=n) (s:=bitsOf l) h.pos (by omega)
 rw [distN_eq h.lt32,h.marks] at this
 rw [this];unfold slv;rw [dists_len]
theorem p27 (k:Nat) (args:List Value):puN (k + 1) 27 args = m27 (puN k) L args:=by kernel_rfl
theorem pu_distances (k f:Nat) {n:Nat} {l:List Nat} (h:Good n l):puN (k + 5) 27 [seaF n f l] = some (tup2 (slv (dists n l)) (IV 0)):=by
 rw [p27]
 show oo (puN (k + 4) 61 [seaF n f l]) none _ = _
 rw [show puN (k + 4) 61 [seaF n f l] = _ from pu_opened (k + 2) f h.pos h.le h.few h.up h.lt,oo_some]
 show oo (puN (k + 4) 74 [tv n (bitsOf l)]) none _ = _
 rw [pu_dists k h,oo_some];rfl
theorem pu_clashes (k:Nat) {n:Nat} {l:List Nat} (h:Good n l):puN (k + 4) 76 [tv n (bitsOf l)] = some (IV (Int.ofNat (firstD n l))):=by
 have h2:=h.le
 have:=pu_clash k (n:=n) (s:=bitsOf l) h.pos (by omega)
 rw [clashN_eq h.lt32,h.marks] at this
 exact this
theorem p29 (k:Nat) (args:List Value):puN (k + 1) 29 args = m29 (puN k) L args:=by kernel_rfl
theorem pu_narrow (k f:Nat) {n:Nat} {l:List Nat} (h:Good n l):puN (k + 5) 29 [seaF n f l] = some (tup2 (IV (Int.ofNat (firstD n l))) (IV (bif Nat.blt 0 (firstD n l) then 13 else 0))):=by
 rw [p29]
 show oo (puN (k + 4) 61 [seaF n f l]) none _ = _
 rw [show puN (k + 4) 61 [seaF n f l] = _ from pu_opened (k + 2) f h.pos h.le h.few h.up h.lt,oo_some]
 show oo (puN (k + 4) 76 [tv n (bitsOf l)]) none _ = _
 rw [pu_clashes k h,oo_some]
 show bb (ilt (0:Int) (Int.ofNat (firstD n l))) _ _ = _
 rw [show (0:Int) = Int.ofNat 0 from rfl,ilt_nat]
 cases hb:Nat.blt 0 (firstD n l) with
 | true=>rfl
 | false =>
  have:firstD n l = 0:=by rw [blt_eq] at hb;simpa using hb
  rw [this];rfl
def comN (n s:Nat) (ts:List Int) (z:Nat):Nat:=ts.foldl (fun z t=>z &&& turnN n s (plc n t)) z
theorem comN_lt {n s : Nat} : ∀ {ts : List Int} {z : Nat}, z < 2 ^ n → comN n s ts z < 2 ^ n
 | [],_,h=>h
 | t :: ts, z, h => by
  show comN n s ts (z &&& turnN n s (plc n t)) < 2 ^ n
  exact comN_lt (Nat.lt_of_le_of_lt Nat.and_le_left h)
theorem common_loop (k : Nat) {n s : Nat} (hn0 : 0 < n) (hn : n ≤ 21) (hs : s < 2 ^ n) {ts : List Int} (ht : ts.length < 900000) (f : Nat) : ∀ (r : List Int) (w i z : Nat), ts.drop i = r → r.length < w → i ≤ ts.length → z < 2 ^ n →
 l10330_1 (puN (k + 2)) L w ⟨ts.length,f,iLI ts⟩ (Int.ofNat ts.length) (Int.ofNat i) (Int.ofNat n) (Int.ofNat s) (Int.ofNat n) (Int.ofNat z) = some (.tuple ⟨[tup2 (slv (marksN n (comN n s r z))) (IV 0)]⟩)
 | _,0,_,_,_,h,_,_=>by omega
 | [], w + 1, i, z, hd, _, hi, hz => by
  show b10330_1 (puN (k + 2)) L (l10330_1 (puN (k + 2)) L w) ⟨ts.length,f,iLI ts⟩ (Int.ofNat ts.length) (Int.ofNat i) (Int.ofNat n) (Int.ofNat s) (Int.ofNat n) (Int.ofNat z) = _
  have:ts.length≤i:=List.drop_eq_nil_iff.1 hd
  unfold b10330_1
  rw [ilt_nat,show Nat.blt i ts.length = false from by rw [blt_eq];simp;omega]
  show oo (puN (k + 2) 80 [tv n z]) none _ = _
  rw [pu_marks k (by omega),oo_some];rfl
 | t :: r, w + 1, i, z, hd, hw, hi, hz => by
  show b10330_1 (puN (k + 2)) L (l10330_1 (puN (k + 2)) L w) ⟨ts.length,f,iLI ts⟩ (Int.ofNat ts.length) (Int.ofNat i) (Int.ofNat n) (Int.ofNat s) (Int.ofNat n) (Int.ofNat z) = _
  obtain ⟨hd2,hi2,_⟩:=dropI_next hd
  have hr:(t :: r).length = r.length + 1:=rfl
  have hlt:Nat.blt i ts.length = true:=by rw [blt_eq];simp;omega
  have hz2:z &&& turnN n s (plc n t) < 2 ^ n:=Nat.lt_of_le_of_lt Nat.and_le_left hz
  have ih:=common_loop k hn0 hn hs ht f r w (i + 1) _ hd2 (by omega) (by omega) hz2
  unfold b10330_1
  rw [ilt_nat,hlt,bb_true,show toN (Int.ofNat i) = some i from rfl,oo_some]
  show bb (an (Nat.blt i ts.length) true) (oo (nthL (iLI ts) (i * 1)) none _) none = _
  rw [hlt,show an true true = true from rfl,bb_true,iLI_get hd,oo_some,show ∀ z,toI .i64 (IV z) = some z from fun _=>rfl,oo_some]
  show oo (puN (k + 2) 62 [tv n s,IV t]) none _ = _
  rw [pu_on2 (k + 1) hn0 (by omega),oo_some]
  show oo (puN (k + 2) 65 [tv n s,IV (Int.ofNat (plc n t))]) none _ = _
  rw [pu_turned (k + 1) hn hs (plc_lt hn0 t),oo_some]
  show l10330_1 (puN (k + 2)) L w ⟨ts.length,f,iLI ts⟩ (Int.ofNat ts.length) (wrapF .i64 (Int.add (Int.ofNat i) (1:Int))) (Int.ofNat n) (Int.ofNat s) (Int.ofNat n) (aand .u32 (Int.ofNat z) (Int.ofNat (turnN n s (plc n t)))) = _
  rw [wrapS i (by omega),aand32 (lt32 (by omega) hz) (lt32 (n:=n) (by omega) turn_lt),ih];rfl
theorem p10330 (k:Nat) (args:List Value):puN (k + 1) 10330 args = m10330 (puN k) L args:=by kernel_rfl
theorem pu_common (k f f2:Nat) {n:Nat} {l:List Nat} (h:Good n l) {ts:List Int} (ht:ts.length < 900000):puN (k + 3) 10330 [seaF n f l,slI f2 ts] = some (.tuple ⟨[tup2 (slv (marksN n (comN n (bitsOf l) ts (bitsOf l)))) (IV 0)]⟩):=by
 rw [p10330]
 show oo (puN (k + 2) 61 [seaF n f l]) none _ = _
 rw [show puN (k + 2) 61 [seaF n f l] = _ from pu_opened k f h.pos h.le h.few h.up h.lt,oo_some]
 exact common_loop k h.pos h.le (bitsOf_lt h.lt) ht f2 ts L 0 _ List.drop_zero (by show _ < 1000000;omega) (by omega) (bitsOf_lt h.lt)
theorem fewer {s t:Nat} (hs:s < 4294967296) (hle:∀ q,t.testBit q = true→s.testBit q = true) (ht:t < s):(marksN 32 t).length < (marksN 32 s).length:=by
 have ht32:t < 4294967296:=by omega
 have e:marksN 32 t = (marksN 32 s).filter fun x=>t.testBit x:=by
  refine sorted_ext (marks_sorted ht32) (List.Pairwise.sublist List.filter_sublist (marks_sorted hs)) fun x=>?_
  rw [mem_marks ht32,List.mem_filter,mem_marks hs]
  exact ⟨fun h=>⟨⟨h.1,hle x h.2⟩,h.2⟩,fun h=>⟨h.1.1,h.2⟩⟩
 rw [e]
 have hle2:=List.filter_sublist (p:=fun x=>t.testBit x) (l:=marksN 32 s)
 refine Nat.lt_of_le_of_ne hle2.length_le fun he=>?_
 have:=hle2.eq_of_length he
 rw [←e] at this
 have h2:∀ q,q < 32→t.testBit q = s.testBit q:=fun q hq=>by
  have hm:q ∈ marksN 32 t↔q ∈ marksN 32 s:=by rw [this]
  rw [mem_marks ht32,mem_marks hs] at hm
  rw [Bool.eq_iff_iff]
  exact ⟨fun h=>(hm.1 ⟨hq,h⟩).2,fun h=>(hm.2 ⟨hq,h⟩).2⟩
 have:=set_ext (n:=32) (a:=t) (b:=s) ht32 hs h2
 omega
theorem stamp_loop (k : Nat) {n : Nat} (hn : n ≤ 21) : ∀ (w s : Nat), s < 2 ^ n → (marksN 32 s).length < w → ∃ t, l46_1 (puN (k + 1)) L w (Int.ofNat n) (Int.ofNat s) = some (tup2 (IV (Int.ofNat n)) (U t)) ∧ t < 2 ^ n ∧ (marksN 32 t).length ≤ 6
 | 0,_,_,h=>by omega
 | w + 1, s, hs, hw => by
  have hs32:=lt32 (by omega) hs
  have hb:l46_1 (puN (k + 1)) L (w + 1) (Int.ofNat n) (Int.ofNat s) = bb (Nat.blt 6 (marksN 32 s).length) (l46_1 (puN (k + 1)) L w (Int.ofNat n) (aand .u32 (Int.ofNat s) (wrapF .u32 (Int.sub (Int.ofNat s) (1:Int))))) (some (tup2 (IV (Int.ofNat n)) (U s))):=by
   show b46_1 (puN (k + 1)) L (l46_1 (puN (k + 1)) L w) (Int.ofNat n) (Int.ofNat s) = _
   unfold b46_1
   show oo (puN (k + 1) 50 [U s]) none _ = _
   rw [pu_ones k hs32,oo_some]
   show bb (ilt (Int.ofNat 6) (Int.ofNat (marksN 32 s).length)) _ _ = _
   rw [ilt_nat];rfl
  rw [hb]
  cases hc:Nat.blt 6 (marksN 32 s).length with
  | false =>
   rw [blt_eq] at hc
   exact ⟨s,rfl,hs,by simpa using hc⟩
  | true =>
   rw [blt_eq] at hc
   have hc:6 < (marksN 32 s).length:=by simpa using hc
   have hs0:0 < s:=by
    rcases Nat.eq_zero_or_pos s with h | h
    ·exfalso
     have:∀ x,x ∉ marksN 32 s:=fun x hx=>by
      have:=((mem_marks hs32).1 hx).2
      rw [h] at this;simp at this
     have:marksN 32 s = []:=List.eq_nil_iff_forall_not_mem.2 this
     rw [this] at hc;simp at hc
    ·exact h
   have hle:s &&& (s - 1)≤s - 1:=Nat.and_le_right
   have e:wrapF .u32 (Int.sub (Int.ofNat s) (1:Int)) = Int.ofNat (s - 1):=by
    rw [show Int.sub (Int.ofNat s) (1:Int) = Int.ofNat (s - 1) from by show (s:Int) - 1 = ((s - 1:Nat):Int);omega]
    exact wrap32 (by omega)
   rw [bb_true,e,aand32 hs32 (by omega)]
   have hf:=fewer (t:=s &&& (s - 1)) hs32 (fun q h=>by rw [Nat.testBit_and] at h;exact (Bool.and_eq_true _ _ ▸ h).1) (by omega)
   exact stamp_loop k hn w (s &&& (s - 1)) (by omega) (by omega)
theorem p46 (k:Nat) (args:List Value):puN (k + 1) 46 args = m46 (puN k) L args:=by kernel_rfl
theorem pu_stamp (k : Nat) {most p b : Nat} (hm0 : 0 < most) (hm : most ≤ 21) (hp : p < 256) (hb : b < 4294967296) : ∃ l, Good (1 + p % most) l ∧
 puN (k + 2) 46 [.agg ⟨[.int .u8 (Int.ofNat p),.int .u32 (Int.ofNat b)]⟩,IV (Int.ofNat most)] = some (tup2 (IV (Int.ofNat (1 + p % most))) (U (bitsOf l))):=by
 have hmod:p % most < most:=Nat.mod_lt _ hm0
 have h2n:2 ^ (1 + p % most) < 4294967296:=Nat.lt_of_le_of_lt (Nat.pow_le_pow_right (by omega) (show 1 + p % most≤21 by omega)) (by decide)
 have hpos:=Nat.two_pow_pos (1 + p % most)
 have hlt:b &&& (2 ^ (1 + p % most) - 1) < 2 ^ (1 + p % most):=by rw [Nat.and_two_pow_sub_one_eq_mod];exact Nat.mod_lt _ hpos
 have hlen:(marksN 32 (b &&& (2 ^ (1 + p % most) - 1))).length≤32:=marks_len
 obtain ⟨t,h1,h2,h3⟩:=stamp_loop k (n:=1 + p % most) (by omega) L (b &&& (2 ^ (1 + p % most) - 1)) hlt (by show _ < 1000000;omega)
 have ht32:=lt32 (n:=1 + p % most) (by omega) h2
 refine ⟨marksN (1 + p % most) t,⟨by omega,by omega,?_,marks_sorted ht32,fun x hx=>((mem_marks ht32).1 hx).1⟩,?_⟩
 ·rw [←marks_more (m:=32) ht32 h2 (by omega)];exact h3
 ·rw [bitsOf_marks (by omega) h2, p46]
  show m46_ (puN (k + 1)) L (Int.ofNat p) (Int.ofNat b) (Int.ofNat most) = _
  unfold m46_
  have e0:ieq (Int.ofNat most) 0 = false:=by rw [show (0:Int) = Int.ofNat 0 from rfl,ieq_nat];exact beq_ne (by omega)
  have e1:wrapF .i64 (Int.add (1:Int) (Int.tmod (wrapF .i64 (Int.ofNat p)) (Int.ofNat most))) = Int.ofNat (1 + p % most):=by
   rw [wrapI (Int.ofNat p) (by show (-9223372036854775808:Int)≤(p:Int);omega) (by show (p:Int)≤9223372036854775807;omega)]
   show wrapF .i64 ((1:Int) + Int.tmod (p:Int) (most:Int)) = (((1 + p % most:Nat)):Int)
   rw [Int.tmod_eq_emod_of_nonneg (by omega),←Int.natCast_emod,wrapI _ (by omega) (by omega)];omega
  rw [e0,show nt false = true from rfl,bb_true,e1]
  show oo (toN (Int.ofNat (1 + p % most))) none _ = _
  rw [show ∀ j,toN (Int.ofNat j) = some j from fun _=>rfl,oo_some,shl32 (by omega)]
  have e2:wrapF .u32 (Int.sub (Int.ofNat (2 ^ (1 + p % most))) (1:Int)) = Int.ofNat (2 ^ (1 + p % most) - 1):=by
   rw [show Int.sub (Int.ofNat (2 ^ (1 + p % most))) (1:Int) = Int.ofNat (2 ^ (1 + p % most) - 1) from by show ((2 ^ (1 + p % most):Nat):Int) - 1 = ((2 ^ (1 + p % most) - 1:Nat):Int);omega]
   exact wrap32 (by omega)
  rw [e2,aand32 hb (by omega),h1]
end Go.RgP
set_option maxRecDepth 100000
set_option maxHeartbeats 4000000
namespace Go.RgP
open Go Go.Sp Go.RgAM
def firstF : List Nat → Nat → Nat → Nat
 | [],_,z=>z
 | d :: r,i,z=>firstF r (i + 1) (bif Nat.blt 1 d && Nat.beq z 0 then i + 1 else z)
theorem firstF_pos : ∀ (r : List Nat) (i : Nat) {z : Nat}, z ≠ 0 → firstF r i z = z
 | [],_,_,_=>rfl
 | d :: r, i, z, h => by
  unfold firstF
  rw [beq_ne h,Bool.and_false]
  exact firstF_pos r (i + 1) h
theorem firstF_range (n : Nat) (l : List Nat) : ∀ (m i : Nat), firstF ((List.range' i m).map fun j => cntD n l (j + 1)) i 0 = (((List.range' i m).map (· + 1)).find? fun d => decide (1 < cntD n l d)).getD 0
 | 0,i=>rfl
 | m + 1, i => by
  rw [List.range'_succ,List.map_cons,List.map_cons]
  unfold firstF
  rw [Nat.beq_refl,Bool.and_true,blt_eq]
  by_cases h:1 < cntD n l (i + 1)
  ·rw [decide_eq_true h, List.find?_cons_of_pos (by simpa using h)]
   exact firstF_pos _ _ (by simp)
  ·rw [decide_eq_false h, List.find?_cons_of_neg (by simpa using h)]
   exact firstF_range n l m (i + 1)
theorem firstF_dists (n:Nat) (l:List Nat):firstF (dists n l) 0 0 = firstD n l:=by
 unfold dists firstD
 rw [List.range_eq_range']
 exact firstF_range n l (n - 1) 0
theorem cntD_le (n:Nat) (l:List Nat) (d:Nat):cntD n l d≤l.length:=List.countP_le_length
theorem dists_get {n:Nat} {l:List Nat} {i:Nat} (hi:i < n - 1):(dists n l)[i]? = some (cntD n l (i + 1)):=by unfold dists;simp [hi]
theorem dists_drop {n:Nat} {l:List Nat} {i d:Nat} {r:List Nat} (h:(dists n l).drop i = d :: r):i < n - 1∧d = cntD n l (i + 1):=by
 have hi:i < n - 1:=by have:=(drop_next h).2.1;rw [dists_len] at this;exact this
 have:=congrArg List.head? h
 rw [List.head?_drop,dists_get hi] at this
 injection this with this
 exact ⟨hi,this.symm⟩
theorem apart_walk (pu : PureF) (L : Nat) {n : Nat} {l : List Nat} (h : Good n l) (one two : Int) (s : Nat) {v : Option Value}
 (hfin:m8_1 pu L one two (Int.ofNat n) (Int.ofNat s) (Int.ofNat (dists n l).sum) (Int.ofNat (firstD n l)) = v):∀ (r:List Nat) (w i:Nat) (sum z:Nat),(dists n l).drop i = r→r.length < w→i≤n - 1→sum≤i * 30→sum + r.sum = (dists n l).sum→z≤i→firstF r i z = firstD n l →
 l8_4 pu L w one two (Int.ofNat n) (Int.ofNat s) ⟨(dists n l).length,0,vL (dists n l)⟩ (Int.ofNat sum) (Int.ofNat z) ⟨(dists n l).length,0,vL (dists n l)⟩ (Int.ofNat (dists n l).length) (Int.ofNat i) = v
 | _,0,_,_,_,_,hw,_,_,_,_,_=>by omega
 | [], w + 1, i, sum, z, hd, _, hi, _, hs, _, hf => by
  show b8_4 pu L (l8_4 pu L w) one two (Int.ofNat n) (Int.ofNat s) ⟨(dists n l).length,0,vL (dists n l)⟩ (Int.ofNat sum) (Int.ofNat z) ⟨(dists n l).length,0,vL (dists n l)⟩ (Int.ofNat (dists n l).length) (Int.ofNat i) = _
  have h1:(dists n l).length≤i:=List.drop_eq_nil_iff.1 hd
  unfold b8_4
  rw [ilt_nat,show Nat.blt i (dists n l).length = false from by rw [blt_eq];simp;omega,bb_false]
  have hs:sum = (dists n l).sum:=by simpa using hs
  have hf:z = firstD n l:=hf
  rw [hs,hf];exact hfin
 | d :: r, w + 1, i, sum, z, hd, hw, hi, hsum, hs, hz, hf => by
  show b8_4 pu L (l8_4 pu L w) one two (Int.ofNat n) (Int.ofNat s) ⟨(dists n l).length,0,vL (dists n l)⟩ (Int.ofNat sum) (Int.ofNat z) ⟨(dists n l).length,0,vL (dists n l)⟩ (Int.ofNat (dists n l).length) (Int.ofNat i) = _
  obtain ⟨hd2,hi2,_⟩:=drop_next hd
  obtain ⟨hin,hdv⟩:=dists_drop hd
  have hn:=h.le
  have hfew:=h.few
  have hdl:=cntD_le n l (i + 1)
  have hr:(d :: r).length = r.length + 1:=rfl
  have hlen:=dists_len n l
  have hlt:Nat.blt i (dists n l).length = true:=by rw [blt_eq];simp;omega
  have hlt2:Nat.blt (n - 2 - i) (dists n l).length = true:=by rw [blt_eq];simp;omega
  have hsub:wrapF .i64 (Int.sub (wrapF .i64 (Int.sub (Int.ofNat n) (2:Int))) (Int.ofNat i)) = Int.ofNat (n - 2 - i):=by
   show wrapF .i64 (wrapF .i64 ((n:Int) - 2) - (i:Int)) = ((n - 2 - i:Nat):Int)
   rw [wrapI ((n:Int) - 2) (by omega) (by omega),wrapI _ (by omega) (by omega)];omega
  have hopp:nthL (vL (dists n l)) ((n - 2 - i) * 1) = some (IV (Int.ofNat d)):=by
   rw [nthL_eq,Nat.mul_one];unfold vL
   rw [List.getElem?_map,dists_get (by omega),hdv]
   have:=cntD_sym (nodup_of_lt h.up) h.lt (d:=i + 1) (by omega) (by omega)
   rw [show n - 2 - i + 1 = n - (i + 1) by omega,this];rfl
  have hsumw:wrapF .i64 (Int.add (Int.ofNat sum) (Int.ofNat d)) = Int.ofNat (sum + d):=by
   show wrapF .i64 ((sum:Int) + (d:Int)) = ((sum + d:Nat):Int)
   rw [wrapI _ (by omega) (by omega)];omega
  have hs':sum + d + r.sum = (dists n l).sum:=by rw [←hs,List.sum_cons];omega
  have hf':firstF r (i + 1) (bif Nat.blt 1 d && Nat.beq z 0 then i + 1 else z) = firstD n l:=hf
  have key:∀ z',z'≤i + 1→firstF r (i + 1) z' = firstD n l→l8_4 pu L w one two (Int.ofNat n) (Int.ofNat s) ⟨(dists n l).length,0,vL (dists n l)⟩ (Int.ofNat (sum + d)) (Int.ofNat z') ⟨(dists n l).length,0,vL (dists n l)⟩ (Int.ofNat (dists n l).length) (wrapF .i64 (Int.add (Int.ofNat i) (1:Int))) = v:=fun z' h1 h2=>by
   rw [wrapS i (by omega)]
   exact apart_walk pu L h one two s hfin r w (i + 1) (sum + d) z' hd2 (by omega) (by omega) (by omega) hs' h1 h2
  unfold b8_4
  rw [ilt_nat,hlt,bb_true,show toN (Int.ofNat i) = some i from rfl,oo_some]
  show bb (an (Nat.blt i (dists n l).length) true) (oo (nthL (vL (dists n l)) (i * 1)) none _) none = _
  rw [hlt,show an true true = true from rfl,bb_true,vL_get hd,oo_some,show ∀ z,toI .i64 (IV z) = some z from fun _=>rfl,oo_some,hsub,show ∀ j,toN (Int.ofNat j) = some j from fun _=>rfl,oo_some]
  show bb (an (Nat.blt (n - 2 - i) (dists n l).length) true) (oo (nthL (vL (dists n l)) ((n - 2 - i) * 1)) none _) none = _
  rw [hlt2,show an true true = true from rfl,bb_true,hopp,oo_some,show ∀ z,toI .i64 (IV z) = some z from fun _=>rfl,oo_some,ieq_nat,Nat.beq_refl,show nt true = false from rfl,bb_false,hsumw,show ilt (1:Int) (Int.ofNat d) = Nat.blt 1 d from ilt_nat 1 d]
  show bb (Nat.blt 1 d) (bb (ieq (Int.ofNat z) (Int.ofNat 0)) (l8_4 pu L w one two (Int.ofNat n) (Int.ofNat s) ⟨(dists n l).length, 0, vL (dists n l)⟩ (Int.ofNat (sum + d)) (wrapF .i64 (Int.add (Int.ofNat i) (1 : Int))) ⟨(dists n l).length, 0, vL (dists n l)⟩ (Int.ofNat (dists n l).length) (wrapF .i64 (Int.add (Int.ofNat i) (1 : Int)))) (l8_4 pu L w one two (Int.ofNat n) (Int.ofNat s) ⟨(dists n l).length, 0, vL (dists n l)⟩ (Int.ofNat (sum + d)) (Int.ofNat z) ⟨(dists n l).length, 0, vL (dists n l)⟩ (Int.ofNat (dists n l).length) (wrapF .i64 (Int.add (Int.ofNat i) (1 : Int)))))
   (l8_4 pu L w one two (Int.ofNat n) (Int.ofNat s) ⟨(dists n l).length,0,vL (dists n l)⟩ (Int.ofNat (sum + d)) (Int.ofNat z) ⟨(dists n l).length,0,vL (dists n l)⟩ (Int.ofNat (dists n l).length) (wrapF .i64 (Int.add (Int.ofNat i) (1:Int)))) = v
  rw [ieq_nat]
  cases h1:Nat.blt 1 d with
  | false =>
   rw [h1] at hf'
   exact key z (by omega) hf'
  | true =>
   rw [h1] at hf'
   cases h2:Nat.beq z 0 with
   | false =>
    rw [h2] at hf'
    exact key z (by omega) hf'
   | true =>
    rw [h2] at hf'
    have:=key (i + 1) (Nat.le_refl _) hf'
    rw [bb_true,bb_true]
    rw [wrapS i (by omega)] at this ⊢
    exact this
theorem apart_law (pu : PureF) (hpu : ∀ g, Nat.beq g 14 = false → pu g = puN 10 g) (h14 : pu 14 [] = some (.bool true)) {p b : Nat} (hp : p < 256) (hb : b < 4294967296) {one two : Int} (o1 : -32768 ≤ one) (o2 : one ≤ 32767) (t1 : -32768 ≤ two) (t2 : two ≤ 32767) :
 m8 pu L [.agg ⟨[.int .u8 (Int.ofNat p),.int .u32 (Int.ofNat b)]⟩,.int .i16 one,.int .i16 two] = some (.bool true):=by
 obtain ⟨l,hg,h46⟩:=pu_stamp 8 (most:=21) (by omega) (by omega) hp hb
 generalize hn:1 + p % 21 = n at *
 have hn0:=hg.pos
 have hn21:=hg.le
 have hlt:=bitsOf_lt hg.lt
 have h32:=hg.lt32
 have hm21:marksN 21 (bitsOf l) = l:=by rw [marks_more h32 hlt hg.le];exact hg.marks
 have h47:pu 47 [IV (Int.ofNat n),U (bitsOf l)] = some (seaV n l):=by
  have:=pu_sealed 8 n (bitsOf l)
  rw [hm21] at this;rw [hpu 47 rfl];exact this
 have h27:pu 27 [seaV n l] = some (tup2 (slv (dists n l)) (IV 0)):=by rw [hpu 27 rfl];exact pu_distances 5 0 hg
 have h51:pu 51 [IV (Int.ofNat n),U (bitsOf l)] = some (slv (dists n l)):=by
  have:=pu_apart 7 hn0 hn21 hlt
  rw [hg.marks] at this;rw [hpu 51 rfl];exact this
 have h23:pu 23 [slv (dists n l),slv (dists n l)] = some (.bool true):=by
  have:=pu_sameN 9 (a:=dists n l) (b:=dists n l) (by rw [dists_len];omega)
  rw [hpu 23 rfl,this];simp
 have hfin:m8_1 pu L one two (Int.ofNat n) (Int.ofNat (bitsOf l)) (Int.ofNat (dists n l).sum) (Int.ofNat (firstD n l)) = some (.bool true):=by
  have h50:pu 50 [U (bitsOf l)] = some (IV (Int.ofNat l.length)):=by
   have:=pu_ones 9 h32
   rw [marks_more h32 hlt (by omega),hg.marks] at this;rw [hpu 50 rfl];exact this
  have h29:pu 29 [seaV n l] = some (tup2 (IV (Int.ofNat (firstD n l))) (IV (bif Nat.blt 0 (firstD n l) then 13 else 0))):=by rw [hpu 29 rfl];exact pu_narrow 5 0 hg
  have hfew:=hg.few
  have hsum:=dists_sum (nodup_of_lt hg.up) hg.lt
  have hk:wrapF .i64 (Int.mul (Int.ofNat l.length) (wrapF .i64 (Int.sub (Int.ofNat l.length) (1:Int)))) = Int.ofNat (dists n l).sum:=by
   show wrapF .i64 ((l.length:Int) * wrapF .i64 ((l.length:Int) - 1)) = (((dists n l).sum:Nat):Int)
   rw [wrapI ((l.length:Int) - 1) (by omega) (by omega),hsum]
   have:(l.length:Int) * ((l.length:Int) - 1) = ((l.length * (l.length - 1):Nat):Int):=by
    cases hl:l.length with
    | zero=>rfl
    | succ m=>rw [Int.natCast_mul];congr 1;omega
   rw [this]
   have hb2:l.length * (l.length - 1)≤6 * 6:=Nat.mul_le_mul hfew (by omega)
   exact wrapI _ (by omega) (by omega)
  have h2:m8_2 pu L one two (Int.ofNat n) (Int.ofNat (bitsOf l)) false = some (.bool true):=by
   have hto:=wrapI one (by omega) (by omega)
   have htt:=wrapI two (by omega) (by omega)
   have h33:pu 10330 [seaV n l,slI 0 [one,two]] = some (.tuple ⟨[tup2 (slv (marksN n (comN n (bitsOf l) [one,two] (bitsOf l)))) (IV 0)]⟩):=by rw [hpu 10330 rfl];exact pu_common 7 0 0 hg (by simp)
   have m1:∀ t:Int,-32768≤t→t≤32767→pu 49 [IV (Int.ofNat n),U (bitsOf l),IV 1,IV t] = some (U (turnN n (bitsOf l) (plc n t))):=fun t a1 a2=>by
    rw [hpu 49 rfl];exact pu_turned1 8 hn0 hn21 hlt (by omega) (by omega)
   have hz:comN n (bitsOf l) [one,two] (bitsOf l) = bitsOf l &&& turnN n (bitsOf l) (plc n one) &&& turnN n (bitsOf l) (plc n two):=rfl
   have hzl:bitsOf l &&& turnN n (bitsOf l) (plc n one) &&& turnN n (bitsOf l) (plc n two) < 2 ^ n:=by rw [←hz];exact comN_lt hlt
   have h48:pu 48 [U (bitsOf l &&& turnN n (bitsOf l) (plc n one) &&& turnN n (bitsOf l) (plc n two))] = some (slv (marksN n (comN n (bitsOf l) [one,two] (bitsOf l)))):=by
    rw [hpu 48 rfl,show (10:Nat) = 9 + 1 from rfl,pu_marks48,marks_more (lt32 (by omega) hzl) hzl hn21,hz]
   unfold m8_2
   rw [bb_false]
   show oo (pu 47 [IV (Int.ofNat n),U (bitsOf l)]) none _ = _
   rw [h47,oo_some]
   show oo (pu 10330 [seaV n l,Sl.v 1 (Sl.mk 2 0 [IV (wrapF .i64 one),IV (wrapF .i64 two)])]) none _ = _
   rw [hto,htt,show Sl.v 1 (Sl.mk 2 0 [IV one,IV two]) = slI 0 [one,two] from rfl,h33,oo_some]
   show oo (pu 49 [IV (Int.ofNat n),U (bitsOf l),IV 1,IV one]) none _ = _
   rw [m1 one o1 o2,oo_some]
   show oo (pu 49 [IV (Int.ofNat n),U (bitsOf l),IV 1,IV two]) none _ = _
   rw [m1 two t1 t2,oo_some]
   show oo (pu 48 [.int .u32 (aand .u32 (aand .u32 (Int.ofNat (bitsOf l)) (Int.ofNat (turnN n (bitsOf l) (plc n one)))) (Int.ofNat (turnN n (bitsOf l) (plc n two))))]) none _ = _
   have ht:=fun b=>lt32 (n:=n) (s:=turnN n (bitsOf l) b) (by omega) turn_lt
   rw [aand32 h32 (ht _),aand32 (Nat.lt_of_le_of_lt Nat.and_le_left h32) (ht _)]
   rw [show (Value.int .u32 (Int.ofNat (bitsOf l &&& turnN n (bitsOf l) (plc n one) &&& turnN n (bitsOf l) (plc n two)))) = U _ from rfl,h48,oo_some]
   show oo (pu 23 [slv (marksN n (comN n (bitsOf l) [one,two] (bitsOf l))),slv (marksN n (comN n (bitsOf l) [one,two] (bitsOf l)))]) none _ = _
   have hs:=pu_sameN 9 (a:=marksN n (comN n (bitsOf l) [one,two] (bitsOf l))) (b:=marksN n (comN n (bitsOf l) [one,two] (bitsOf l))) (by have:=marks_len (n:=n) (s:=comN n (bitsOf l) [one,two] (bitsOf l));omega)
   rw [hpu 23 rfl,show (10:Nat) = 9 + 1 from rfl,hs,decide_eq_true rfl,oo_some]
   show oo (pu 14 []) none _ = _
   rw [h14];rfl
  unfold m8_1
  show oo (pu 50 [U (bitsOf l)]) none _ = _
  rw [h50,oo_some]
  show oo (pu 47 [IV (Int.ofNat n),U (bitsOf l)]) none _ = _
  rw [h47,oo_some]
  show oo (pu 29 [seaV n l]) none _ = _
  rw [h29,oo_some]
  show bb (nt (ieq (Int.ofNat (dists n l).sum) (wrapF .i64 (Int.mul (Int.ofNat l.length) (wrapF .i64 (Int.sub (Int.ofNat l.length) (1:Int))))))) (m8_2 pu L one two (Int.ofNat n) (Int.ofNat (bitsOf l)) true) (bb (nt (ieq (Int.ofNat (firstD n l)) (Int.ofNat (firstD n l)))) (m8_2 pu L one two (Int.ofNat n) (Int.ofNat (bitsOf l)) true) (bb (bq false (bq (ieq (bif Nat.blt 0 (firstD n l) then (13:Int) else 0) (0:Int)) (ieq (Int.ofNat (firstD n l)) (Int.ofNat 0)))) (m8_2 pu L one two (Int.ofNat n) (Int.ofNat (bitsOf l)) true) (bb (nt (ieq (bif Nat.blt 0 (firstD n l) then (13:Int) else 0) (0:Int))) (m8_2 pu L one two (Int.ofNat n) (Int.ofNat (bitsOf l)) (nt (ieq (bif Nat.blt 0 (firstD n l) then (13:Int) else 0) (13:Int)))) (m8_2 pu L one two (Int.ofNat n) (Int.ofNat (bitsOf l)) false)))) = _
  rw [hk,ieq_nat,ieq_nat,ieq_nat,Nat.beq_refl,Nat.beq_refl]
  cases hc:Nat.blt 0 (firstD n l) with
  | true =>
   have:Nat.beq (firstD n l) 0 = false:=by rw [blt_eq] at hc;exact beq_ne (by simp at hc;omega)
   rw [this];exact h2
  | false =>
   have:firstD n l = 0:=by rw [blt_eq] at hc;simpa using hc
   rw [this];exact h2
 show m8_ pu L (Int.ofNat p) (Int.ofNat b) one two = _
 unfold m8_
 show oo (pu 46 [.agg ⟨[.int .u8 (Int.ofNat p),.int .u32 (Int.ofNat b)]⟩,IV (Int.ofNat 21)]) none _ = _
 rw [hpu 46 rfl,h46,oo_some]
 show oo (pu 47 [IV (Int.ofNat n),U (bitsOf l)]) none _ = _
 rw [h47,oo_some]
 show oo (pu 27 [seaV n l]) none _ = _
 rw [h27,oo_some]
 show oo (pu 51 [IV (Int.ofNat n),U (bitsOf l)]) none _ = _
 rw [h51,oo_some]
 show oo (pu 23 [slv (dists n l),slv (dists n l)]) none _ = _
 rw [h23,oo_some]
 have:=apart_walk pu L hg one two (bitsOf l) hfin (dists n l) L 0 0 0 List.drop_zero (by rw [dists_len];show n - 1 < 1000000;omega) (by omega) (by omega) (by omega) (Nat.le_refl _) (firstF_dists n l)
 exact this
end Go.RgP
