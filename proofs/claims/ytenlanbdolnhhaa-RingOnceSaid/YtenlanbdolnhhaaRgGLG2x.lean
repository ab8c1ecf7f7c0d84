/- Made from wip. -/
import Derived.Test.YtenlanbdolnhhaaRgGT2x

set_option maxRecDepth 100000
set_option maxHeartbeats 2000000
namespace Go.RgP
open Go Go.Sp
theorem nodup_map_on {α β : Type} {f : α → β} : ∀ {l : List α}, l.Nodup → (∀ a ∈ l, ∀ b ∈ l, f a = f b → a = b) → (l.map f).Nodup
 | [],_,_=>by simp
 | x :: l, h, hf => by
  obtain ⟨h1,h2⟩:=List.nodup_cons.1 h
  refine List.nodup_cons.2 ⟨fun hm=>?_,nodup_map_on h2 fun a ha b hb=>hf a (List.mem_cons_of_mem _ ha) b (List.mem_cons_of_mem _ hb)⟩
  obtain ⟨y,hy,he⟩:=List.mem_map.1 hm
  have:=hf y (List.mem_cons_of_mem _ hy) x List.mem_cons_self he
  subst this;exact h1 hy
theorem nodup_filter {α:Type} {p:α→Bool} {l:List α} (h:l.Nodup):(l.filter p).Nodup:=List.Nodup.sublist List.filter_sublist h
theorem mod_add {n a d:Nat} (ha:a < n) (hd:d < n):(a + d) % n = if a + d < n then a + d else a + d - n:=by
 split
 ·exact Nat.mod_eq_of_lt (by assumption)
 ·rw [Nat.mod_eq_sub_mod (by omega),Nat.mod_eq_of_lt (by omega)]
theorem add_back {n a d:Nat} (ha:a < n) (hd:0 < d) (hd2:d < n):((a + d) % n + (n - d)) % n = a:=by
 have h1:(a + d) % n < n:=Nat.mod_lt _ (by omega)
 rw [mod_add h1 (by omega),mod_add ha hd2]
 repeat' split
 all_goals omega
theorem back_add {n a d:Nat} (ha:a < n) (hd:0 < d) (hd2:d < n):((a + (n - d)) % n + d) % n = a:=by
 have:=add_back (n:=n) (a:=a) (d:=n - d) ha (by omega) (by omega)
 rw [show n - (n - d) = d by omega] at this;exact this
theorem cntD_sym {n:Nat} {l:List Nat} (hl:l.Nodup) (hn:∀ x ∈ l,x < n) {d:Nat} (hd:0 < d) (hd2:d < n):cntD n l (n - d) = cntD n l d:=by
 unfold cntD
 rw [List.countP_eq_length_filter,List.countP_eq_length_filter]
 have hp:((l.filter fun a=>decide ((a + d) % n ∈ l)).map fun a=>(a + d) % n).Perm (l.filter fun a=>decide ((a + (n - d)) % n ∈ l)):=by
  refine (List.perm_ext_iff_of_nodup (nodup_map_on (nodup_filter hl) fun a ha b hb e=>?_) (nodup_filter hl)).2 fun x=>?_
  ·have h1 := hn a (List.mem_filter.1 ha).1
   have h2:=hn b (List.mem_filter.1 hb).1
   have e:=congrArg (fun z=>(z + (n - d)) % n) e
   rw [add_back h1 hd hd2,add_back h2 hd hd2] at e;exact e
  ·rw [List.mem_filter, List.mem_map]
   constructor
   ·rintro ⟨a, ha, rfl⟩
    obtain ⟨h1,h2⟩:=List.mem_filter.1 ha
    refine ⟨by simpa using h2,?_⟩
    rw [add_back (hn a h1) hd hd2];simpa using h1
   ·rintro ⟨h1, h2⟩
    refine ⟨(x + (n - d)) % n,List.mem_filter.2 ⟨by simpa using h2,?_⟩,back_add (hn x h1) hd hd2⟩
    rw [back_add (hn x h1) hd hd2];simpa using h1
 have:=hp.length_eq
 rw [List.length_map] at this;exact this.symm
theorem one_row {n:Nat} {l:List Nat} (hl:l.Nodup) (hn:∀ x ∈ l,x < n) {a:Nat} (ha:a ∈ l):((List.range (n - 1)).countP fun i=>decide ((a + (i + 1)) % n ∈ l)) = l.length - 1:=by
 have han:=hn a ha
 rw [List.countP_eq_length_filter]
 have hp:(((List.range (n - 1)).filter fun i=>decide ((a + (i + 1)) % n ∈ l)).map fun i=>(a + (i + 1)) % n).Perm (l.erase a):=by
  refine (List.perm_ext_iff_of_nodup (nodup_map_on (nodup_filter List.nodup_range) fun i hi j hj e=>?_) (hl.erase a)).2 fun x=>?_
  ·have h1 := List.mem_range.1 (List.mem_filter.1 hi).1
   have h2:=List.mem_range.1 (List.mem_filter.1 hj).1
   rw [mod_add han (by omega),mod_add han (by omega)] at e
   revert e
   repeat' split
   all_goals omega
  ·rw [hl.mem_erase_iff, List.mem_map]
   constructor
   ·rintro ⟨i, hi, rfl⟩
    obtain ⟨h1,h2⟩:=List.mem_filter.1 hi
    have h1:=List.mem_range.1 h1
    refine ⟨?_,by simpa using h2⟩
    rw [mod_add han (by omega)]
    split <;> omega
   ·rintro ⟨h1, h2⟩
    have hx:=hn x h2
    refine ⟨keyN n a x - 1,List.mem_filter.2 ⟨?_,?_⟩,?_⟩
    all_goals
     obtain ⟨k1,k2⟩:=key_good han hx (Ne.symm h1)
     have hk:=(key_iff han hx k1 k2)
     rw [beq_ne (Ne.symm h1),Nat.beq_refl] at hk
     have hk:x = (a + keyN n a x) % n:=of_decide_eq_true hk.symm
    ·exact List.mem_range.2 (by omega)
    ·rw [show keyN n a x - 1 + 1 = keyN n a x by omega,←hk];simpa using h2
    ·rw [show keyN n a x - 1 + 1 = keyN n a x by omega,←hk]
 have:=hp.length_eq
 rw [List.length_map,List.length_erase_of_mem ha] at this;exact this
theorem sum_ind {n : Nat} {L : List Nat} (hL : L.Nodup) (hn : ∀ x ∈ L, x < n) : ∀ (r : List Nat), (∀ x ∈ r, x ∈ L) → ((List.range (n - 1)).map fun i => r.countP fun a => decide ((a + (i + 1)) % n ∈ L)).sum = r.length * (L.length - 1)
 | [], _ => by
  have:∀ m:List Nat,(m.map fun _=>0).sum = 0:=fun m=>by induction m with | nil=>rfl | cons x m ih=>simp [ih]
  simp [this]
 | a :: r, h => by
  have ih:=sum_ind hL hn r fun x hx=>h x (List.mem_cons_of_mem _ hx)
  have hrow:=one_row hL hn (h a List.mem_cons_self)
  have hg:∀ m:List Nat,(m.map fun i=>(a :: r).countP fun a=>decide ((a + (i + 1)) % n ∈ L)).sum = (m.map fun i=>r.countP fun a=>decide ((a + (i + 1)) % n ∈ L)).sum + m.countP fun i=>decide ((a + (i + 1)) % n ∈ L):=fun m=>by
   induction m with
   | nil=>rfl
   | cons i m ihm =>
    rw [List.map_cons,List.sum_cons,ihm,List.map_cons,List.sum_cons,List.countP_cons (l:=m),List.countP_cons (l:=r)]
    omega
  rw [hg,ih,hrow,List.length_cons,Nat.succ_mul]
theorem dists_sum {n:Nat} {l:List Nat} (hl:l.Nodup) (hn:∀ x ∈ l,x < n):(dists n l).sum = l.length * (l.length - 1):=sum_ind hl hn l fun _ h=>h
def setOf (f:Nat→Nat) (l:List Nat) (z:Nat):Nat:=l.foldl (fun z p=>z ||| 2 ^ f p) z
theorem setOf_bit (f : Nat → Nat) : ∀ (l : List Nat) (z q : Nat), (setOf f l z).testBit q = (z.testBit q || l.any fun p => decide (f p = q))
 | [],z,q=>by simp [setOf]
 | p :: l, z, q => by
  show (setOf f l (z ||| 2 ^ f p)).testBit q = _
  rw [setOf_bit f l,Nat.testBit_or,Nat.testBit_two_pow,List.any_cons,Bool.or_assoc]
theorem setOf_lt (f:Nat→Nat) {n:Nat} {l:List Nat} {z:Nat} (hz:z < 2 ^ n) (h:∀ p ∈ l,f p < n):setOf f l z < 2 ^ n:=by
 refine Nat.lt_pow_two_of_testBit _ fun i hi=>?_
 rw [setOf_bit,Nat.testBit_lt_two_pow (Nat.lt_of_lt_of_le hz (Nat.pow_le_pow_right (by omega) hi)),Bool.false_or,List.any_eq_false]
 intro p hp
 have:=h p hp
 simp;omega
def turnN (n s b:Nat):Nat:=(((s * 2 ^ b) % 4294967296) ||| (s / 2 ^ (n - b))) &&& (2 ^ n - 1)
theorem turn_bit {n s b:Nat} (hn:n≤31) (hs:s < 2 ^ n) (hb:b < n) (q:Nat):(turnN n s b).testBit q = (decide (q < n) && s.testBit ((q + (n - b)) % n)):=by
 unfold turnN
 rw [Nat.testBit_and,Nat.testBit_two_pow_sub_one,Nat.testBit_or,show (4294967296:Nat) = 2 ^ 32 from rfl,Nat.testBit_mod_two_pow,←Nat.shiftLeft_eq,Nat.testBit_shiftLeft,←Nat.shiftRight_eq_div_pow,Nat.testBit_shiftRight]
 by_cases hq:q < n
 ·have h32 : q < 32 := by omega
  simp only [hq,h32,decide_true,Bool.true_and,Bool.and_true]
  by_cases h:b≤q
  ·have e1 : (q + (n - b)) % n = q - b := by rw [show q + (n - b) = (q - b) + n by omega, Nat.add_mod_right, Nat.mod_eq_of_lt (by omega)]
   have e2:s.testBit (n - b + q) = false:=Nat.testBit_lt_two_pow (Nat.lt_of_lt_of_le hs (Nat.pow_le_pow_right (by omega) (by omega)))
   rw [e1,e2];simp [h]
  ·have e1 : (q + (n - b)) % n = n - b + q := by rw [Nat.mod_eq_of_lt (by omega)]; omega
   rw [e1];simp [h]
 ·simp [hq]
theorem turn_lt {n s b:Nat}:turnN n s b < 2 ^ n:=by
 unfold turnN
 rw [Nat.and_two_pow_sub_one_eq_mod]
 exact Nat.mod_lt _ (Nat.two_pow_pos n)
theorem set_ext {n a b:Nat} (ha:a < 2 ^ n) (hb:b < 2 ^ n) (h:∀ q,q < n→a.testBit q = b.testBit q):a = b:=by
 refine Nat.eq_of_testBit_eq fun q=>?_
 by_cases hq:q < n
 ·exact h q hq
 ·rw [Nat.testBit_lt_two_pow (Nat.lt_of_lt_of_le ha (Nat.pow_le_pow_right (by omega) (by omega))),Nat.testBit_lt_two_pow (Nat.lt_of_lt_of_le hb (Nat.pow_le_pow_right (by omega) (by omega)))]
theorem lt32 {n s:Nat} (hn:n≤31) (hs:s < 2 ^ n):s < 4294967296:=Nat.lt_of_lt_of_le hs (Nat.le_trans (Nat.pow_le_pow_right (by omega) hn) (by decide))
def plc (n:Nat) (x:Int):Nat:=(x % (n:Int)).toNat
theorem plc_lt {n:Nat} (hn:0 < n) (x:Int):plc n x < n:=by
 have h1:=Int.emod_nonneg x (show (n:Int) ≠ 0 by omega)
 have h2:=Int.emod_lt_of_pos x (show (0:Int) < n by omega)
 unfold plc;omega
theorem plc_cast {n:Nat} (hn:0 < n) (x:Int):((plc n x:Nat):Int) = x % (n:Int):=by
 have h1:=Int.emod_nonneg x (show (n:Int) ≠ 0 by omega)
 unfold plc;omega
theorem plc_nat {n:Nat} (a:Nat):plc n (a:Int) = a % n:=by
 unfold plc;rw [←Int.natCast_emod];rfl
theorem plc_add {n:Nat} (hn:0 < n) (x y:Int):plc n (x + y) = (plc n x + plc n y) % n:=by
 rw [←plc_nat (n:=n)]
 unfold plc
 congr 1
 have e1:(((x % (n:Int)).toNat:Nat):Int) = x % (n:Int):=plc_cast hn x
 have e2:(((y % (n:Int)).toNat:Nat):Int) = y % (n:Int):=plc_cast hn y
 rw [show (((x % (n:Int)).toNat + (y % (n:Int)).toNat:Nat):Int) = x % (n:Int) + y % (n:Int) by rw [Int.natCast_add,e1,e2]]
 rw [Int.emod_add_emod,Int.add_emod_emod]
theorem turn_moved {n s:Nat} (hn0:0 < n) (hn:n≤31) (hs:s < 2 ^ n) (by':Int):setOf (fun p=>plc n ((p:Int) + by')) (marksN n s) 0 = turnN n s (plc n by'):=by
 have hs32:=lt32 hn hs
 have hb:=plc_lt hn0 by'
 refine set_ext (setOf_lt _ (Nat.two_pow_pos n) fun p _=>plc_lt hn0 _) turn_lt fun q hq=>?_
 rw [setOf_bit,Nat.zero_testBit,Bool.false_or,turn_bit hn hs hb,Bool.eq_iff_iff]
 simp only [List.any_eq_true,decide_eq_true_eq,Bool.and_eq_true]
 have hz:∀ p,p < n→plc n ((p:Int) + by') = (p + plc n by') % n:=fun p hp=>by rw [plc_add hn0,plc_nat,Nat.mod_eq_of_lt hp]
 constructor
 ·rintro ⟨p, hp, rfl⟩
  obtain ⟨h1,h2⟩:=(mem_marks hs32).1 hp
  refine ⟨hq,?_⟩
  rw [hz p h1]
  by_cases h0:plc n by' = 0
  ·rw [h0,Nat.add_zero,Nat.sub_zero,Nat.mod_eq_of_lt h1,Nat.add_mod_right,Nat.mod_eq_of_lt h1];exact h2
  ·rw [add_back h1 (by omega) hb];exact h2
 ·rintro ⟨_, h2⟩
  have hm:(q + (n - plc n by')) % n < n:=Nat.mod_lt _ hn0
  refine ⟨_,(mem_marks hs32).2 ⟨hm,h2⟩,?_⟩
  rw [hz _ hm]
  by_cases h0:plc n by' = 0
  ·rw [h0,Nat.sub_zero,Nat.add_zero,Nat.add_mod_right,Nat.mod_mod,Nat.mod_eq_of_lt hq]
  ·exact back_add hq (by omega) hb
theorem common_cnt {n s:Nat} (hn:n≤31) (hs:s < 2 ^ n) {d:Nat} (hd:0 < d) (hd2:d < n) {m:Nat} (hm:n≤m):(marksN m (s &&& turnN n s d)).length = cntD n (marksN n s) d:=by
 have hs32:=lt32 hn hs
 have h2:s &&& turnN n s d < 2 ^ n:=Nat.lt_of_le_of_lt Nat.and_le_left hs
 have h232:=lt32 hn h2
 rw [marks_more h232 h2 hm]
 have hl:=marks_sorted (n:=n) hs32
 rw [←cntD_sym (nodup_of_lt hl) (fun x hx=>((mem_marks hs32).1 hx).1) hd hd2]
 unfold cntD
 rw [List.countP_eq_length_filter]
 congr 1
 refine sorted_ext (marks_sorted h232) (List.Pairwise.sublist List.filter_sublist hl) fun x=>?_
 rw [mem_marks h232,List.mem_filter,mem_marks hs32,Nat.testBit_and,turn_bit hn hs hd2]
 simp only [Bool.and_eq_true,decide_eq_true_eq,mem_marks hs32]
 have:(x + (n - d)) % n < n:=Nat.mod_lt _ (by omega)
 constructor
 ·rintro ⟨h1,h2,_,h4⟩;exact ⟨⟨h1,h2⟩,this,h4⟩
 ·rintro ⟨⟨h1,h2⟩,_,h4⟩;exact ⟨h1,h2,h1,h4⟩
end Go.RgP
set_option maxRecDepth 100000
set_option maxHeartbeats 4000000
namespace Go.RgP
open Go Go.Sp Go.RgGM
noncomputable def slv (l:List Nat):Value:=Sl.v 1 ⟨l.length,0,vL l⟩
def U (s:Nat):Value:=.int .u32 (Int.ofNat s)
noncomputable def seaV (n:Nat) (l:List Nat):Value:=.agg ⟨[IV (Int.ofNat n),slv l]⟩
theorem vL_snoc (q:List Nat) (p:Nat):appL (dropL 0 (vL q)) [.int .i64 (Int.ofNat p)] = vL (q ++ [p]):=by
 rw [appL_eq,dropL_eq,List.drop_zero];unfold vL;rw [List.map_append];rfl
theorem grow_vL {q:List Nat} {c:Nat} (hq:q.length≤2000) (hc:c / 2 = q.length) (hc2:c % 2 = 0):growC 1 8 q.length c 1 (vL q) = true:=by
 unfold growC roomy
 rw [len_eq,vL_len,hc,hc2]
 rw [show Nat.ble ((4 * (q.length + 1) + 4096) * 8) 281474976710656 = true from Nat.ble_eq_true_of_le (by omega),show Nat.ble (q.length + 1) q.length = false from by rw [ble_eq];simp,show Nat.ble (0 + q.length * 1) q.length = true from Nat.ble_eq_true_of_le (by omega),show Nat.beq (0 + q.length * 1) q.length = true from by simp]
 rfl
theorem fin_vL (q:List Nat):bb (an (Nat.ble (0 + q.length * 1) (len (vL q))) (allL closed1 (takeL (q.length * 1) (dropL 0 (vL q))))) (some (Sl.v 1 (Sl.mk q.length 0 (takeL (q.length * 1) (dropL 0 (vL q)))))) none = some (slv q):=by
 have e1:takeL (q.length * 1) (dropL 0 (vL q)) = vL q:=by
  rw [takeL_eq,dropL_eq,List.drop_zero,Nat.mul_one,←vL_len q,List.take_length]
 rw [e1,vL_closed,len_eq,vL_len,show Nat.ble (0 + q.length * 1) q.length = true from Nat.ble_eq_true_of_le (by omega)];rfl
theorem rem2 {n:Nat} (hn:0 < n) (hn2:n < 1000) {x:Int} (h1:-1000000000 < x) (h2:x < 1000000000):Int.tmod (wrapF .i64 (Int.add (Int.tmod (wrapF .i64 x) (Int.ofNat n)) (Int.ofNat n))) (Int.ofNat n) = Int.ofNat (plc n x):=by
 rw [wrapI x (by omega) (by omega)]
 show Int.tmod (wrapF .i64 (Int.tmod x (n:Int) + (n:Int))) (n:Int) = ((plc n x:Nat):Int)
 have hp:(0:Int) < (n:Int):=by omega
 have g1:=Int.tmod_lt_of_pos x hp
 have g2:-(n:Int) < Int.tmod x n:=by
  have:=Int.lt_tmod_of_pos x hp;omega
 rw [wrapI _ (by omega) (by omega),Int.tmod_eq_emod_of_nonneg (by omega),plc_cast hn]
 have h3:Int.tmod x (n:Int) + (n:Int) = x + (n:Int) * (1 - Int.tdiv x n):=by
  have:=Int.mul_tdiv_add_tmod x (n:Int)
  rw [Int.mul_sub];omega
 rw [h3,Int.add_mul_emod_self_left]
theorem marks_len {n s:Nat}:(marksN n s).length≤n:=markF_len s n 0
def iLI (l:List Int):List Value:=l.map IV
theorem vL_iLI (l:List Nat):vL l = iLI (l.map Int.ofNat):=by unfold vL iLI;rw [List.map_map];rfl
theorem iLI_get {l:List Int} {i:Nat} {b:Int} {r:List Int} (h:l.drop i = b :: r):nthL (iLI l) (i * 1) = some (IV b):=by
 rw [nthL_eq,Nat.mul_one]
 have:l[i]? = some b:=by
  have:=congrArg List.head? h
  rw [List.head?_drop] at this;exact this
 unfold iLI
 rw [List.getElem?_map,this];rfl
theorem dropI_next {l:List Int} {i:Nat} {b:Int} {r:List Int} (h:l.drop i = b :: r):l.drop (i + 1) = r∧i < l.length∧b ∈ l:=by
 refine ⟨?_,?_,?_⟩
 ·rw [←List.drop_drop,h];rfl
 ·have := congrArg List.length h
  simp at this;omega
 ·have : b ∈ l.drop i := by rw [h]; exact List.mem_cons_self
  exact List.mem_of_mem_drop this
noncomputable def chk (n : Int) : List Int → Int → Int
 | [],_=>0
 | m :: r,last=>bif ilt m 0 then 2 else bif nt (ilt m n) then 2 else bif nt (ilt last m) then 7 else chk n r m
noncomputable def checkI (n:Int) (l:List Int):Int:=bif ilt n 1 then 1 else bif ilt 21 n then 1 else bif Nat.blt 6 l.length then 3 else chk n l (-1)
noncomputable def slI (f:Nat) (l:List Int):Value:=Sl.v 1 ⟨l.length,f,iLI l⟩
theorem slv_slI (l:List Nat):slv l = slI 0 (l.map Int.ofNat):=by unfold slv slI;rw [vL_iLI,List.length_map]
theorem map_ofNat_inj {a b:List Nat}:a.map Int.ofNat = b.map Int.ofNat↔a = b:=by
 constructor
 ·intro h
  have:=congrArg (List.map Int.toNat) h
  simpa [List.map_map,Function.comp_def] using this
 ·rintro rfl;rfl
theorem chk_ok {n : Nat} : ∀ {m : List Nat} {last : Int}, -1 ≤ last → m.Pairwise (· < ·) → (∀ x ∈ m, x < n) → (∀ x ∈ m, last < (x : Int)) → chk (Int.ofNat n) (m.map Int.ofNat) last = 0
 | [],_,_,_,_,_=>rfl
 | x :: m, last, hl, h1, h2, h3 => by
  obtain ⟨p1,p2⟩:=List.pairwise_cons.1 h1
  have a1:=h2 x List.mem_cons_self
  have a2:=h3 x List.mem_cons_self
  show (bif ilt (x:Int) 0 then (2:Int) else bif nt (ilt (x:Int) (n:Int)) then 2 else bif nt (ilt last (x:Int)) then 7 else chk (Int.ofNat n) (m.map Int.ofNat) (x:Int)) = 0
  rw [ilt_eq,ilt_eq,ilt_eq,decide_eq_false (show ¬ (x:Int) < 0 by omega),decide_eq_true (show (x:Int) < (n:Int) by omega),decide_eq_true a2]
  exact chk_ok (by omega) p2 (fun y hy=>h2 y (List.mem_cons_of_mem _ hy)) fun y hy=>by have:=p1 y hy;omega
theorem checkI_ok {n:Nat} {m:List Nat} (hn0:0 < n) (hn:n≤21) (hl:m.length≤6) (h1:m.Pairwise (· < ·)) (h2:∀ x ∈ m,x < n):checkI (Int.ofNat n) (m.map Int.ofNat) = 0:=by
 show (bif ilt (Int.ofNat n) (Int.ofNat 1) then (1:Int) else bif ilt (Int.ofNat 21) (Int.ofNat n) then 1 else bif Nat.blt 6 (m.map Int.ofNat).length then 3 else chk (Int.ofNat n) (m.map Int.ofNat) (-1)) = 0
 rw [ilt_nat,ilt_nat,blt_eq,blt_eq,blt_eq,List.length_map,decide_eq_false (by omega),decide_eq_false (by omega),decide_eq_false (by omega)]
 exact chk_ok (last:=-1) (Int.le_refl _) h1 h2 fun x _=>by omega
def bitsOf (l:List Nat):Nat:=setOf (fun p=>p) l 0
theorem bitsOf_bit (l:List Nat) (q:Nat):(bitsOf l).testBit q = decide (q ∈ l):=by
 unfold bitsOf
 rw [setOf_bit,Nat.zero_testBit,Bool.false_or,Bool.eq_iff_iff]
 simp only [List.any_eq_true,decide_eq_true_eq]
 exact ⟨fun ⟨p,hp,e⟩=>e ▸ hp,fun h=>⟨q,h,rfl⟩⟩
theorem bitsOf_lt {n:Nat} {l:List Nat} (h:∀ x ∈ l,x < n):bitsOf l < 2 ^ n:=setOf_lt _ (Nat.two_pow_pos n) h
theorem marks_bitsOf {n:Nat} (hn:n≤31) {l:List Nat} (h1:l.Pairwise (· < ·)) (h2:∀ x ∈ l,x < n):marksN n (bitsOf l) = l:=by
 have h:=lt32 hn (bitsOf_lt h2)
 refine sorted_ext (marks_sorted h) h1 fun x=>?_
 rw [mem_marks h,bitsOf_bit,decide_eq_true_eq]
 exact ⟨fun h=>h.2,fun h=>⟨h2 x h,h⟩⟩
theorem bitsOf_marks {n s:Nat} (hn:n≤31) (hs:s < 2 ^ n):bitsOf (marksN n s) = s:=by
 have hs32:=lt32 hn hs
 refine set_ext (n:=n) (bitsOf_lt fun x hx=>((mem_marks hs32).1 hx).1) hs fun q hq=>?_
 rw [bitsOf_bit,Bool.eq_iff_iff,decide_eq_true_eq,mem_marks hs32]
 exact ⟨fun h=>h.2,fun h=>⟨hq,h⟩⟩
noncomputable def tup2 (a b:Value):Value:=.tuple ⟨[a,b]⟩
structure Good (n:Nat) (l:List Nat):Prop where
 pos:0 < n
 le:n≤21
 few:l.length≤6
 up:l.Pairwise (· < ·)
 lt:∀ x ∈ l,x < n
noncomputable def seaF (n f:Nat) (l:List Nat):Value:=.agg ⟨[IV (Int.ofNat n),Sl.v 1 ⟨l.length,f,vL l⟩]⟩
theorem dists_len (n:Nat) (l:List Nat):(dists n l).length = n - 1:=by unfold dists;simp
theorem Good.lt32 {n:Nat} {l:List Nat} (h:Good n l):bitsOf l < 4294967296:=Go.RgP.lt32 (n:=n) (by have:=h.le;omega) (bitsOf_lt h.lt)
theorem Good.marks {n:Nat} {l:List Nat} (h:Good n l):marksN n (bitsOf l) = l:=marks_bitsOf (by have:=h.le;omega) h.up h.lt
end Go.RgP
set_option maxRecDepth 100000
set_option maxHeartbeats 2000000
namespace Go.RgP
open Go Go.Sp
def lexB : List Nat → List Nat → Bool
 | [],[]=>false
 | [],_ :: _=>true
 | _ :: _,[]=>false
 | x :: a,y :: b=>bif Nat.beq x y then lexB a b else Nat.blt x y
theorem lexB_cons (x y:Nat) (a b:List Nat):lexB (x :: a) (y :: b) = (bif Nat.beq x y then lexB a b else Nat.blt x y):=rfl
theorem lexB_tot : ∀ {a b : List Nat}, lexB a b = false → lexB b a = false → a = b
 | [],[],_,_=>rfl
 | [],_ :: _,h,_=>by cases h
 | _ :: _,[],_,h=>by cases h
 | x :: a, y :: b, h, h' => by
  rw [lexB_cons,beq_dec,blt_eq] at *
  by_cases h1:x = y
  ·rw [decide_eq_true h1] at h; rw [decide_eq_true h1.symm] at h'
   rw [h1,lexB_tot (show lexB a b = false from h) (show lexB b a = false from h')]
  ·rw [decide_eq_false h1] at h; rw [decide_eq_false (Ne.symm h1)] at h'
   have h2:¬ x < y:=of_decide_eq_false h
   have h3:¬ y < x:=of_decide_eq_false h'
   omega
def LeastIn (S:List Nat→Prop) (x:List Nat):Prop:=S x∧∀ c,S c→lexB c x = false
theorem LeastIn.uniq {S:List Nat→Prop} {x y:List Nat} (h:LeastIn S x) (h':LeastIn S y):x = y:=lexB_tot (h'.2 x h.1) (h.2 y h'.1)
end Go.RgP
set_option maxRecDepth 100000
set_option maxHeartbeats 4000000
namespace Go.RgP
open Go Go.Sp Go.RgGM
noncomputable def cmpN (a b:List Nat):Int:=bif lexB a b then -1 else bif lexB b a then 1 else 0
theorem p98 (k:Nat) (args:List Value):puN (k + 1) 98 args = m98 (puN k) L args:=by kernel_rfl
theorem p92 (k:Nat) (args:List Value):puN (k + 1) 92 args = m92 (puN k) L args:=by kernel_rfl
theorem pu_cmp (k x y:Nat):puN (k + 2) 92 [IV (Int.ofNat x),IV (Int.ofNat y)] = some (IV (bif Nat.blt x y then -1 else bif Nat.blt y x then 1 else 0)):=by
 have h98:∀ z:Nat,puN (k + 1) 98 [IV (Int.ofNat z)] = some (.bool false):=fun z=>by
  rw [p98]
  show some (Value.bool (nt (ieq (Int.ofNat z) (Int.ofNat z)))) = _
  rw [ieq_nat,Nat.beq_refl];rfl
 rw [p92]
 show m92_ (puN (k + 1)) L (Int.ofNat x) (Int.ofNat y) = _
 unfold m92_
 rw [h98,oo_some,show vBool (Value.bool false) = some false from rfl,oo_some,h98,oo_some,show vBool (Value.bool false) = some false from rfl,oo_some]
 show bb (ilt (Int.ofNat x) (Int.ofNat y)) (some (IV (-1))) (bb (ilt (Int.ofNat y) (Int.ofNat x)) (some (IV 1)) (some (IV 0))) = _
 rw [ilt_nat,ilt_nat]
 cases Nat.blt x y <;> cases Nat.blt y x <;> rfl
theorem cmp_loop (k : Nat) {a b : List Nat} (ha : a.length < 900000) (f1 f2 : Nat) : ∀ (r r' : List Nat) (w i : Nat), a.drop i = r → b.drop i = r' → r.length < w → i ≤ a.length → i ≤ b.length →
 l52_1 (puN (k + 2)) L w ⟨a.length,f1,vL a⟩ ⟨b.length,f2,vL b⟩ ⟨a.length,f1,vL a⟩ (Int.ofNat a.length) (Int.ofNat i) = some (IV (cmpN r r'))
 | _,_,0,_,_,_,h,_,_=>by omega
 | [], r', w + 1, i, hd, hd', _, hi, hi' => by
  show b52_1 (puN (k + 2)) L (l52_1 (puN (k + 2)) L w) ⟨a.length,f1,vL a⟩ ⟨b.length,f2,vL b⟩ ⟨a.length,f1,vL a⟩ (Int.ofNat a.length) (Int.ofNat i) = _
  have h1:a.length≤i:=List.drop_eq_nil_iff.1 hd
  unfold b52_1
  rw [ilt_nat,show Nat.blt i a.length = false from by rw [blt_eq];simp;omega,bb_false]
  show bb (ilt (Int.ofNat a.length) (Int.ofNat b.length)) (some (IV (-1))) (some (IV 0)) = _
  rw [ilt_nat,blt_eq]
  cases r' with
  | nil =>
   have h2:b.length≤i:=List.drop_eq_nil_iff.1 hd'
   rw [decide_eq_false (by omega)];rfl
  | cons y r' =>
   have:=(drop_next hd').2.1
   rw [decide_eq_true (by omega)];rfl
 | x :: r, r', w + 1, i, hd, hd', hw, hi, hi' => by
  show b52_1 (puN (k + 2)) L (l52_1 (puN (k + 2)) L w) ⟨a.length,f1,vL a⟩ ⟨b.length,f2,vL b⟩ ⟨a.length,f1,vL a⟩ (Int.ofNat a.length) (Int.ofNat i) = _
  obtain ⟨hd2,hi2,_⟩:=drop_next hd
  have hr:(x :: r).length = r.length + 1:=rfl
  have hlt:Nat.blt i a.length = true:=by rw [blt_eq];simp;omega
  unfold b52_1
  rw [ilt_nat,hlt,bb_true,show toN (Int.ofNat i) = some i from rfl,oo_some]
  show bb (an (Nat.blt i a.length) true) (oo (nthL (vL a) (i * 1)) none _) none = _
  rw [hlt,show an true true = true from rfl,bb_true,vL_get hd,oo_some,show ∀ z,toI .i64 (IV z) = some z from fun _=>rfl,oo_some]
  cases r' with
  | nil =>
   have h2:b.length≤i:=List.drop_eq_nil_iff.1 hd'
   show bb (nt (ilt (Int.ofNat i) (Int.ofNat b.length))) (some (IV 1)) _ = _
   rw [ilt_nat,show Nat.blt i b.length = false from by rw [blt_eq];simp;omega];rfl
  | cons y r' =>
   obtain ⟨hd3,hi3,_⟩:=drop_next hd'
   have hlt2:Nat.blt i b.length = true:=by rw [blt_eq];simp;omega
   have ih:=cmp_loop k ha f1 f2 r r' w (i + 1) hd2 hd3 (by omega) (by omega) (by omega)
   show bb (nt (ilt (Int.ofNat i) (Int.ofNat b.length))) (some (IV 1)) (bb (an (Nat.blt i b.length) true) (oo (nthL (vL b) (i * 1)) none fun v4808=>oo (toI .i64 v4808) none fun x4810=>oo (puN (k + 2) 92 [IV (Int.ofNat x),IV x4810]) none fun v4816=>oo (toI .i64 v4816) none fun x4818=>bb (nt (ieq x4818 (0:Int))) (some (IV x4818)) (l52_1 (puN (k + 2)) L w ⟨a.length,f1,vL a⟩ ⟨b.length,f2,vL b⟩ ⟨a.length,f1,vL a⟩ (Int.ofNat a.length) (wrapF .i64 (Int.add (Int.ofNat i) (1:Int))))) none) = _
   rw [ilt_nat,hlt2,show nt true = false from rfl,bb_false,show an true true = true from rfl,bb_true,vL_get hd',oo_some,show ∀ z,toI .i64 (IV z) = some z from fun _=>rfl,oo_some,pu_cmp,oo_some,show ∀ z,toI .i64 (IV z) = some z from fun _=>rfl,oo_some,wrapS i (by omega),ih]
   unfold cmpN
   rw [lexB_cons,lexB_cons,blt_eq,blt_eq,beq_dec,beq_dec]
   by_cases h1:x = y
   ·subst h1
    rw [decide_eq_true rfl,decide_eq_false (Nat.lt_irrefl x)];rfl
   ·rw [decide_eq_false h1, decide_eq_false (Ne.symm h1)]
    by_cases h2:x < y
    ·rw [decide_eq_true h2];rfl
    ·rw [decide_eq_false h2,decide_eq_true (show y < x by omega)];rfl
theorem p52 (k:Nat) (args:List Value):puN (k + 1) 52 args = m52 (puN k) L args:=by kernel_rfl
theorem pu_compare (k f1 f2:Nat) {a b:List Nat} (ha:a.length < 900000):puN (k + 3) 52 [Sl.v 1 ⟨a.length,f1,vL a⟩,Sl.v 1 ⟨b.length,f2,vL b⟩] = some (IV (cmpN a b)):=by
 rw [p52]
 exact cmp_loop k ha f1 f2 a b L 0 List.drop_zero List.drop_zero (by show _ < 1000000;omega) (by omega) (by omega)
theorem cmp_neg (a b:List Nat):ilt (cmpN a b) 0 = lexB a b:=by
 unfold cmpN
 cases lexB a b with
 | true=>rfl
 | false=>cases lexB b a <;> rfl
end Go.RgP
set_option maxRecDepth 100000
set_option maxHeartbeats 4000000
namespace Go.RgP
open Go Go.Sp Go.RgGM
theorem check_loop (pu : PureF) (L : Nat) {n : Int} {l : List Int} (hl : l.length < 900000) (f f' : Nat) (l' : List Value) (m' : Nat) : ∀ (r : List Int) (w i : Nat) (last : Int), l.drop i = r → r.length < w → i ≤ l.length →
 l25_2 pu L w last ⟨l.length,f,iLI l⟩ (Int.ofNat l.length) (Int.ofNat i) n ⟨m',f',l'⟩ = some (IV (chk n r last))
 | _,0,_,_,_,h,_=>by omega
 | [], w + 1, i, last, hd, _, hi => by
  show b25_2 pu L (l25_2 pu L w) last ⟨l.length,f,iLI l⟩ (Int.ofNat l.length) (Int.ofNat i) n ⟨m',f',l'⟩ = _
  have h1:l.length≤i:=List.drop_eq_nil_iff.1 hd
  unfold b25_2
  rw [ilt_nat,show Nat.blt i l.length = false from by rw [blt_eq];simp;omega];rfl
 | x :: r, w + 1, i, last, hd, hw, hi => by
  show b25_2 pu L (l25_2 pu L w) last ⟨l.length,f,iLI l⟩ (Int.ofNat l.length) (Int.ofNat i) n ⟨m',f',l'⟩ = _
  obtain ⟨hd2,hi2,_⟩:=dropI_next hd
  have hr:(x :: r).length = r.length + 1:=rfl
  have hlt:Nat.blt i l.length = true:=by rw [blt_eq];simp;omega
  have ih:=check_loop pu L (n:=n) hl f f' l' m' r w (i + 1) x hd2 (by omega) (by omega)
  unfold b25_2
  rw [ilt_nat,hlt,bb_true,show toN (Int.ofNat i) = some i from rfl,oo_some]
  show bb (an (Nat.blt i l.length) true) (oo (nthL (iLI l) (i * 1)) none _) none = _
  rw [hlt,show an true true = true from rfl,bb_true,iLI_get hd,oo_some,show ∀ z,toI .i64 (IV z) = some z from fun _=>rfl,oo_some]
  show bb (ilt x 0) (bb true (some (IV 2)) _) (bb (nt (ilt x n)) (some (IV 2)) (bb (nt (ilt last x)) (some (IV 7)) (l25_2 pu L w x ⟨l.length,f,iLI l⟩ (Int.ofNat l.length) (wrapF .i64 (Int.add (Int.ofNat i) (1:Int))) n ⟨m',f',l'⟩))) = some (IV (bif ilt x 0 then 2 else bif nt (ilt x n) then 2 else bif nt (ilt last x) then 7 else chk n r x))
  rw [wrapS i (by omega),ih]
  cases ilt x 0 <;> cases nt (ilt x n) <;> cases nt (ilt last x) <;> rfl
theorem p25 (k:Nat) (args:List Value):puN (k + 1) 25 args = m25 (puN k) L args:=by kernel_rfl
theorem pu_check (k f:Nat) (n:Int) {l:List Int} (hl:l.length < 900000):puN (k + 1) 25 [.agg ⟨[IV n,slI f l]⟩] = some (IV (checkI n l)):=by
 rw [p25]
 show bb (ilt n 1) (m25_0 (puN k) L true n ⟨l.length,f,iLI l⟩) (m25_0 (puN k) L (ilt 21 n) n ⟨l.length,f,iLI l⟩) = _
 have h:=check_loop (puN k) L (n:=n) hl f f (iLI l) l.length l L 0 (-1) List.drop_zero (by show _ < 1000000;omega) (by omega)
 have h0:∀ b,m25_0 (puN k) L b n ⟨l.length,f,iLI l⟩ = some (IV (bif b then 1 else bif Nat.blt 6 l.length then 3 else chk n l (-1))):=fun b=>by
  show bb b (some (IV 1)) (bb (ilt (6:Int) (Int.ofNat l.length)) (some (IV 3)) (l25_2 (puN k) L L (-1:Int) ⟨l.length,f,iLI l⟩ (Int.ofNat l.length) (0:Int) n ⟨l.length,f,iLI l⟩)) = _
  have h:l25_2 (puN k) L L (-1:Int) ⟨l.length,f,iLI l⟩ (Int.ofNat l.length) (0:Int) n ⟨l.length,f,iLI l⟩ = some (IV (chk n l (-1))):=h
  rw [h,show (6:Int) = Int.ofNat 6 from rfl,ilt_nat]
  cases b <;> cases Nat.blt 6 l.length <;> rfl
 rw [h0,h0]
 unfold checkI
 cases ilt n 1 <;> cases ilt 21 n <;> rfl
theorem made_loop (pu : PureF) (L n : Nat) {l : List Nat} (hl : ∀ x ∈ l, x < 31) (hl2 : l.length < 900000) (f : Nat) (a b : Int) : ∀ (r : List Nat) (w i z : Nat), l.drop i = r → r.length < w → i ≤ l.length → z < 2 ^ 31 →
 l96_1 pu L w ⟨l.length,f,vL l⟩ (Int.ofNat l.length) (Int.ofNat i) a b (Int.ofNat n) (Int.ofNat z) = some (tv n (setOf (fun p=>p) r z))
 | _,0,_,_,_,h,_,_=>by omega
 | [], w + 1, i, z, hd, _, hi, _ => by
  show b96_1 pu L (l96_1 pu L w) ⟨l.length,f,vL l⟩ (Int.ofNat l.length) (Int.ofNat i) a b (Int.ofNat n) (Int.ofNat z) = _
  have:l.length≤i:=List.drop_eq_nil_iff.1 hd
  unfold b96_1
  rw [ilt_nat,show Nat.blt i l.length = false from by rw [blt_eq];simp;omega];rfl
 | p :: r, w + 1, i, z, hd, hw, hi, hz => by
  show b96_1 pu L (l96_1 pu L w) ⟨l.length,f,vL l⟩ (Int.ofNat l.length) (Int.ofNat i) a b (Int.ofNat n) (Int.ofNat z) = _
  obtain ⟨hd2,hi2,hb'⟩:=drop_next hd
  have hp:=hl p hb'
  have hr:(p :: r).length = r.length + 1:=rfl
  have hlt:Nat.blt i l.length = true:=by rw [blt_eq];simp;omega
  have hk:2 ^ p < 2 ^ 31:=Nat.pow_lt_pow_right (by omega) hp
  have hz2:z ||| 2 ^ p < 2 ^ 31:=Nat.or_lt_two_pow hz hk
  have ih:=made_loop pu L n hl hl2 f a b r w (i + 1) _ hd2 (by omega) (by omega) hz2
  unfold b96_1
  rw [ilt_nat,hlt,bb_true,show toN (Int.ofNat i) = some i from rfl,oo_some]
  show bb (an (Nat.blt i l.length) true) (oo (nthL (vL l) (i * 1)) none _) none = _
  rw [hlt,show an true true = true from rfl,bb_true,vL_get hd,oo_some,show toI .i64 (IV (Int.ofNat p)) = some (Int.ofNat p) from rfl,oo_some,show toN (Int.ofNat p) = some p from rfl,oo_some,shl32 (by omega),aor32 (by omega) (by omega),wrapS i (by omega),ih];rfl
theorem p96 (k:Nat) (args:List Value):puN (k + 1) 96 args = m96 (puN k) L args:=by kernel_rfl
theorem pu_made (k n f:Nat) {l:List Nat} (hl:∀ x ∈ l,x < 31) (hl2:l.length < 900000):puN (k + 1) 96 [IV (Int.ofNat n),Sl.v 1 ⟨l.length,f,vL l⟩] = some (tv n (bitsOf l)):=by
 rw [p96]
 exact made_loop (puN k) L n hl hl2 f 0 0 l L 0 0 List.drop_zero (by show _ < 1000000;omega) (by omega) (by omega)
theorem p61 (k:Nat) (args:List Value):puN (k + 1) 61 args = m61 (puN k) L args:=by kernel_rfl
theorem pu_opened (k f:Nat) {n:Nat} {l:List Nat} (hn0:0 < n) (hn:n≤21) (hl:l.length≤6) (h1:l.Pairwise (· < ·)) (h2:∀ x ∈ l,x < n):puN (k + 2) 61 [.agg ⟨[IV (Int.ofNat n),Sl.v 1 ⟨l.length,f,vL l⟩]⟩] = some (tup2 (tv n (bitsOf l)) (IV 0)):=by
 rw [p61]
 show oo (puN (k + 1) 25 [.agg ⟨[IV (Int.ofNat n),Sl.v 1 ⟨l.length,f,vL l⟩]⟩]) none _ = _
 have hc:=pu_check k f (Int.ofNat n) (l:=l.map Int.ofNat) (by simp;omega)
 rw [checkI_ok hn0 hn hl h1 h2] at hc
 rw [show Sl.v 1 ⟨l.length,f,vL l⟩ = slI f (l.map Int.ofNat) from by unfold slI;rw [vL_iLI,List.length_map],hc,oo_some]
 show oo (puN (k + 1) 96 [IV (Int.ofNat n),slI f (l.map Int.ofNat)]) none _ = _
 have hm:=pu_made k n f (l:=l) (fun x hx=>by have:=h2 x hx;omega) (by omega)
 rw [show slI f (l.map Int.ofNat) = Sl.v 1 ⟨l.length,f,vL l⟩ from by unfold slI;rw [vL_iLI,List.length_map],hm];rfl
end Go.RgP
set_option maxRecDepth 100000
set_option maxHeartbeats 4000000
namespace Go.RgP
open Go Go.Sp Go.RgGM
theorem on_any (pu:PureF) (L n s:Nat) (x:Int) (hn:0 < n) (hn2:n < 1000):m62 pu L [tv n s,IV x] = some (IV (Int.ofNat (plc n x))):=by
 show m62_ pu L (Int.ofNat n) (Int.ofNat s) x = _
 unfold m62_
 have e:ieq (Int.ofNat n) 0 = false:=by rw [show (0:Int) = Int.ofNat 0 from rfl,ieq_nat];exact beq_ne (by omega)
 rw [e]
 show some (IV (Int.tmod (wrapF .i64 (Int.tmod x (n:Int) + (n:Int))) (n:Int))) = some (IV ((plc n x:Nat):Int))
 have hp:(0:Int) < (n:Int):=by omega
 have g1:=Int.tmod_lt_of_pos x hp
 have g2:-(n:Int) < Int.tmod x n:=by
  have:=Int.lt_tmod_of_pos x hp;omega
 rw [wrapI _ (by omega) (by omega),Int.tmod_eq_emod_of_nonneg (by omega),plc_cast hn]
 have h3:Int.tmod x (n:Int) + (n:Int) = x + (n:Int) * (1 - Int.tdiv x n):=by
  have:=Int.mul_tdiv_add_tmod x (n:Int)
  rw [Int.mul_sub];omega
 rw [h3,Int.add_mul_emod_self_left]
theorem pu_on2 (k:Nat) {n s:Nat} {x:Int} (hn:0 < n) (hn2:n≤60):puN (k + 1) 62 [tv n s,IV x] = some (IV (Int.ofNat (plc n x))):=by
 rw [p62];exact on_any (puN k) L n s x hn (by omega)
theorem p65 (k:Nat) (args:List Value):puN (k + 1) 65 args = m65 (puN k) L args:=by kernel_rfl
theorem pu_turned (k:Nat) {n s b:Nat} (hn:n≤21) (hs:s < 2 ^ n) (hb:b < n):puN (k + 1) 65 [tv n s,IV (Int.ofNat b)] = some (tv n (turnN n s b)):=by
 rw [p65]
 show m65_ (puN k) L (Int.ofNat n) (Int.ofNat s) (Int.ofNat b) = _
 unfold m65_
 have hs32:=lt32 (by omega) hs
 have e1:wrapF .i64 (Int.sub (Int.ofNat n) (Int.ofNat b)) = Int.ofNat (n - b):=by
  show wrapF .i64 ((n:Int) - (b:Int)) = ((n - b:Nat):Int)
  rw [wrapI _ (by omega) (by omega)];omega
 have e2:wrapF .u32 (Int.sub (shlI .u32 (1:Int) n) (1:Int)) = Int.ofNat (2 ^ n - 1):=by
  have h1:2 ^ n < 4294967296:=Nat.lt_of_le_of_lt (Nat.pow_le_pow_right (by omega) hn) (by decide)
  have h2:=Nat.two_pow_pos n
  rw [shl32 (by omega),show Int.sub (Int.ofNat (2 ^ n)) 1 = Int.ofNat (2 ^ n - 1) from by show ((2 ^ n:Nat):Int) - 1 = ((2 ^ n - 1:Nat):Int);omega]
  exact wrap32 (by omega)
 have e3:shlI .u32 (Int.ofNat s) b = Int.ofNat ((s * 2 ^ b) % 4294967296):=by
  show wrapF .u32 (Int.ofNat (s * 2 ^ (min b 32))) = _
  rw [Nat.min_eq_left (by omega)];rfl
 have h4:(s * 2 ^ b) % 4294967296 < 4294967296:=Nat.mod_lt _ (by omega)
 have h5:s / 2 ^ (n - b) < 4294967296:=Nat.lt_of_le_of_lt (Nat.div_le_self _ _) hs32
 have h6:(s * 2 ^ b) % 4294967296 ||| s / 2 ^ (n - b) < 4294967296:=Nat.or_lt_two_pow (n:=32) h4 h5
 have h7:2 ^ n - 1 < 4294967296:=by
  have h1:2 ^ n < 4294967296:=Nat.lt_of_le_of_lt (Nat.pow_le_pow_right (by omega) hn) (by decide)
  omega
 show oo (toN (wrapF .i64 (Int.sub (Int.ofNat n) (Int.ofNat b)))) none (fun k3348=>some (Value.agg ⟨[(.int .i64 (Int.ofNat n)),(.int .u32 (aand .u32 (aor .u32 (shlI .u32 (Int.ofNat s) b) (shrI .u32 (Int.ofNat s) k3348)) (wrapF .u32 (Int.sub (shlI .u32 (1:Int) n) (1:Int)))))]⟩)) = _
 rw [e1,show ∀ j,toN (Int.ofNat j) = some j from fun _=>rfl,oo_some,e2,e3,shr32 hs32,aor32 h4 h5,aand32 h6 h7];rfl
end Go.RgP
set_option maxRecDepth 100000
set_option maxHeartbeats 4000000
namespace Go.RgP
open Go Go.Sp Go.RgGM
def comN (n s:Nat) (ts:List Int) (z:Nat):Nat:=ts.foldl (fun z t=>z &&& turnN n s (plc n t)) z
theorem common_loop (k : Nat) {n s : Nat} (hn0 : 0 < n) (hn : n ≤ 21) (hs : s < 2 ^ n) {ts : List Int} (ht : ts.length < 900000) (f : Nat) : ∀ (r : List Int) (w i z : Nat), ts.drop i = r → r.length < w → i ≤ ts.length → z < 2 ^ n →
 l10330_1 (puN (k + 2)) L w ⟨ts.length,f,iLI ts⟩ (Int.ofNat ts.length) (Int.ofNat i) (Int.ofNat n) (Int.ofNat s) (Int.ofNat n) (Int.ofNat z) = some (.tuple ⟨[tup2 (slv (marksN n (comN n s r z))) (IV 0)]⟩)
 | _,0,_,_,_,h,_,_=>by omega
 | [], w + 1, i, z, hd, _, hi, hz => by
  show b10330_1 (puN (k + 2)) L (l10330_1 (puN (k + 2)) L w) ⟨ts.length,f,iLI ts⟩ (Int.ofNat ts.length) (Int.ofNat i) (Int.ofNat n) (Int.ofNat s) (Int.ofNat n) (Int.ofNat z) = _
  have:ts.length≤i:=List.drop_eq_nil_iff.1 hd
  unfold b10330_1
  rw [ilt_nat,show Nat.blt i ts.length = false from by rw [blt_eq];simp;omega]
  show oo (puN (k + 2) 80 [tv n z]) none _ = _
  rw [pu_marks k (by omega),oo_some];rfl
 | t :: r, w + 1, i, z, hd, hw, hi, hz => by
  show b10330_1 (puN (k + 2)) L (l10330_1 (puN (k + 2)) L w) ⟨ts.length,f,iLI ts⟩ (Int.ofNat ts.length) (Int.ofNat i) (Int.ofNat n) (Int.ofNat s) (Int.ofNat n) (Int.ofNat z) = _
  obtain ⟨hd2,hi2,_⟩:=dropI_next hd
  have hr:(t :: r).length = r.length + 1:=rfl
  have hlt:Nat.blt i ts.length = true:=by rw [blt_eq];simp;omega
  have hz2:z &&& turnN n s (plc n t) < 2 ^ n:=Nat.lt_of_le_of_lt Nat.and_le_left hz
  have ih:=common_loop k hn0 hn hs ht f r w (i + 1) _ hd2 (by omega) (by omega) hz2
  unfold b10330_1
  rw [ilt_nat,hlt,bb_true,show toN (Int.ofNat i) = some i from rfl,oo_some]
  show bb (an (Nat.blt i ts.length) true) (oo (nthL (iLI ts) (i * 1)) none _) none = _
  rw [hlt,show an true true = true from rfl,bb_true,iLI_get hd,oo_some,show ∀ z,toI .i64 (IV z) = some z from fun _=>rfl,oo_some]
  show oo (puN (k + 2) 62 [tv n s,IV t]) none _ = _
  rw [pu_on2 (k + 1) hn0 (by omega),oo_some]
  show oo (puN (k + 2) 65 [tv n s,IV (Int.ofNat (plc n t))]) none _ = _
  rw [pu_turned (k + 1) hn hs (plc_lt hn0 t),oo_some]
  show l10330_1 (puN (k + 2)) L w ⟨ts.length,f,iLI ts⟩ (Int.ofNat ts.length) (wrapF .i64 (Int.add (Int.ofNat i) (1:Int))) (Int.ofNat n) (Int.ofNat s) (Int.ofNat n) (aand .u32 (Int.ofNat z) (Int.ofNat (turnN n s (plc n t)))) = _
  rw [wrapS i (by omega),aand32 (lt32 (by omega) hz) (lt32 (n:=n) (by omega) turn_lt),ih];rfl
theorem p10330 (k:Nat) (args:List Value):puN (k + 1) 10330 args = m10330 (puN k) L args:=by kernel_rfl
theorem pu_common (k f f2:Nat) {n:Nat} {l:List Nat} (h:Good n l) {ts:List Int} (ht:ts.length < 900000):puN (k + 3) 10330 [seaF n f l,slI f2 ts] = some (.tuple ⟨[tup2 (slv (marksN n (comN n (bitsOf l) ts (bitsOf l)))) (IV 0)]⟩):=by
 rw [p10330]
 show oo (puN (k + 2) 61 [seaF n f l]) none _ = _
 rw [show puN (k + 2) 61 [seaF n f l] = _ from pu_opened k f h.pos h.le h.few h.up h.lt,oo_some]
 exact common_loop k h.pos h.le (bitsOf_lt h.lt) ht f2 ts L 0 _ List.drop_zero (by show _ < 1000000;omega) (by omega) (bitsOf_lt h.lt)
end Go.RgP
set_option maxRecDepth 100000
set_option maxHeartbeats 4000000
namespace Go.RgP
open Go Go.Sp Go.RgGM
theorem same_loop (pu : PureF) (L : Nat) {a b : List Int} (hab : a.length = b.length) (ha : a.length < 900000) (f1 f2 : Nat) : ∀ (r r' : List Int) (w i : Nat), a.drop i = r → b.drop i = r' → r.length < w → i ≤ a.length →
 l23_1 pu L w ⟨a.length,f1,iLI a⟩ ⟨b.length,f2,iLI b⟩ (Int.ofNat i) = some (.bool (decide (r = r')))
 | _,_,0,_,_,_,h,_=>by omega
 | [], r', w + 1, i, hd, hd', _, hi => by
  show b23_1 pu L (l23_1 pu L w) ⟨a.length,f1,iLI a⟩ ⟨b.length,f2,iLI b⟩ (Int.ofNat i) = _
  have h1:a.length≤i:=List.drop_eq_nil_iff.1 hd
  have h2:r' = []:=by rw [←hd'];exact List.drop_eq_nil_iff.2 (by omega)
  subst h2
  unfold b23_1
  show bb (ilt (Int.ofNat i) (Int.ofNat a.length)) _ _ = _
  rw [ilt_nat,show Nat.blt i a.length = false from by rw [blt_eq];simp;omega];simp;rfl
 | x :: r, r', w + 1, i, hd, hd', hw, hi => by
  show b23_1 pu L (l23_1 pu L w) ⟨a.length,f1,iLI a⟩ ⟨b.length,f2,iLI b⟩ (Int.ofNat i) = _
  obtain ⟨hd2,hi2,_⟩:=dropI_next hd
  cases r' with
  | nil =>
   have h1:b.length≤i:=List.drop_eq_nil_iff.1 hd'
   omega
  | cons y r' =>
   obtain ⟨hd3,_,_⟩:=dropI_next hd'
   have hr:(x :: r).length = r.length + 1:=rfl
   have hlt:Nat.blt i a.length = true:=by rw [blt_eq];simp;omega
   have hlt2:Nat.blt i b.length = true:=by rw [blt_eq];simp;omega
   have ih:=same_loop pu L hab ha f1 f2 r r' w (i + 1) hd2 hd3 (by omega) (by omega)
   unfold b23_1
   show bb (ilt (Int.ofNat i) (Int.ofNat a.length)) (oo (toN (Int.ofNat i)) none fun k=>bb (an (Nat.blt k a.length) true) (oo (nthL (iLI a) (k * 1)) none fun v=>oo (toI .i64 v) none fun x1=>bb (an (Nat.blt k b.length) true) (oo (nthL (iLI b) (k * 1)) none fun v=>oo (toI .i64 v) none fun x2=>bb (nt (ieq x1 x2)) (some (.bool false)) (l23_1 pu L w ⟨a.length,f1,iLI a⟩ ⟨b.length,f2,iLI b⟩ (wrapF .i64 (Int.add (Int.ofNat k) (1:Int))))) none) none) (m23_0 pu L) = _
   rw [ilt_nat, hlt, bb_true, show toN (Int.ofNat i) = some i from rfl, oo_some, hlt, show an true true = true from rfl, bb_true, iLI_get hd, oo_some, show ∀ z, toI .i64 (IV z) = some z from fun _ => rfl, oo_some, hlt2, show an true true = true from rfl, bb_true, iLI_get hd', oo_some,
    show ∀ z,toI .i64 (IV z) = some z from fun _=>rfl,oo_some,wrapS i (by omega),ih,ieq_eq]
   by_cases h:x = y
   ·subst h;simp
   ·have hxy : (x == y) = false := by simpa using h
    have hc:¬ (x :: r = y :: r'):=fun e=>h (by injection e)
    rw [hxy,decide_eq_false hc];rfl
theorem p23 (k:Nat) (args:List Value):puN (k + 1) 23 args = m23 (puN k) L args:=by kernel_rfl
theorem pu_same (k f1 f2:Nat) {a b:List Int} (ha:a.length < 900000):puN (k + 1) 23 [slI f1 a,slI f2 b] = some (.bool (decide (a = b))):=by
 rw [p23]
 show bb (nt (ieq (Int.ofNat a.length) (Int.ofNat b.length))) (some (.bool false)) (l23_1 (puN k) L L ⟨a.length,f1,iLI a⟩ ⟨b.length,f2,iLI b⟩ (0:Int)) = _
 rw [ieq_nat,beq_dec]
 by_cases h:a.length = b.length
 ·rw [decide_eq_true h, show nt true = false from rfl, bb_false]
  exact same_loop (puN k) L h ha f1 f2 a b L 0 (List.drop_zero) (List.drop_zero) (by show _ < 1000000;omega) (by omega)
 ·have : ¬ a = b := fun e => h (by rw [e])
  rw [decide_eq_false h,decide_eq_false this];rfl
theorem pu_sameN (k:Nat) {a b:List Nat} (ha:a.length < 900000):puN (k + 1) 23 [slv a,slv b] = some (.bool (decide (a = b))):=by
 rw [slv_slI,slv_slI,pu_same k 0 0 (by simpa using ha)]
 congr 2
 exact decide_eq_decide.2 map_ofNat_inj
end Go.RgP
set_option maxRecDepth 100000
set_option maxHeartbeats 4000000
namespace Go.RgP
open Go Go.Sp Go.RgGM
theorem markF_add (s : Nat) : ∀ (a b p : Nat), markF s (a + b) p = markF s a p ++ markF s b (p + a)
 | 0,b,p=>by rw [Nat.zero_add];rfl
 | a + 1, b, p => by
  rw [show a + 1 + b = (a + b) + 1 by omega]
  show (bif hasB s p then p :: markF s (a + b) (p + 1) else markF s (a + b) (p + 1)) = (bif hasB s p then p :: markF s a (p + 1) else markF s a (p + 1)) ++ markF s b (p + (a + 1))
  rw [markF_add s a b (p + 1),show p + 1 + a = p + (a + 1) by omega]
  cases hasB s p <;> rfl
theorem markF_shift {s : Nat} (hs : s < 4294967296) (d : Nat) : ∀ (k p : Nat), p + k ≤ 8 → (markF s k (p + d)).length = (markF (s / 2 ^ d % 256) k p).length
 | 0,_,_=>rfl
 | k + 1, p, h => by
  have e:hasB s (p + d) = hasB (s / 2 ^ d % 256) p:=by
   rw [hasB_eq hs,hasB_eq (Nat.lt_of_lt_of_le (Nat.mod_lt _ (by omega)) (by omega)),show (256:Nat) = 2 ^ 8 from rfl,Nat.testBit_mod_two_pow,←Nat.shiftRight_eq_div_pow,Nat.testBit_shiftRight]
   simp [show p < 8 by omega,Nat.add_comm]
  have ih:=markF_shift hs d k (p + 1) (by omega)
  rw [show p + 1 + d = p + d + 1 by omega] at ih
  unfold markF
  rw [e]
  cases hasB (s / 2 ^ d % 256) p with
  | true=>show (markF s k (p + d + 1)).length + 1 = (markF _ k (p + 1)).length + 1;rw [ih]
  | false=>exact ih
noncomputable def popB (b:Nat):Option Nat:=oo (str0[b]?) none fun c=>some c.toNat
theorem pop_tab:mapL popB (List.range 256) = mapL (fun b=>some (len (markF b 8 0))) (List.range 256):=by kernel_rfl
theorem mapL_eq' {α β:Type} (f:α→β) (l:List α):mapL f l = l.map f:=by
 induction l with
 | nil=>rfl
 | cons x l ih=>show f x :: mapL f l = _;rw [ih];rfl
theorem pop_at {b:Nat} (hb:b < 256):∃ c,str0[b]? = some c∧c.toNat = (markF b 8 0).length:=by
 have h:=congrArg (fun l:List (Option Nat)=>l[b]?) pop_tab
 simp only [mapL_eq',List.getElem?_map,List.getElem?_range hb,Option.map_some,len_eq] at h
 injection h with h
 obtain ⟨c,h1,h2⟩:=oo_inv (show oo (str0[b]?) none (fun c=>some c.toNat) = some _ from h)
 injection h2 with h2
 exact ⟨c,h1,h2⟩
theorem p50 (k:Nat) (args:List Value):puN (k + 1) 50 args = m50 (puN k) L args:=by kernel_rfl
theorem wrap8 {a:Nat} (ha:a < 256):wrapF .u8 (Int.ofNat a) = Int.ofNat a:=by
 show Int.ofNat (a % 256) = _
 rw [Nat.mod_eq_of_lt ha]
theorem and255 {a:Nat} (ha:a < 4294967296):aand .u32 (Int.ofNat a) (255:Int) = Int.ofNat (a % 256):=by
 rw [show (255:Int) = Int.ofNat 255 from rfl,aand32 ha (by omega),show (255:Nat) = 2 ^ 8 - 1 from rfl,Nat.and_two_pow_sub_one_eq_mod]
theorem markF_len8 (b:Nat):(markF b 8 0).length≤8:=markF_len b 8 0
theorem pu_ones (k:Nat) {s:Nat} (hs:s < 4294967296):puN (k + 1) 50 [U s] = some (IV (Int.ofNat (marksN 32 s).length)):=by
 rw [p50]
 show m50_ (puN k) L (Int.ofNat s) = _
 unfold m50_
 have d1:s / 2 ^ 16 < 4294967296:=Nat.lt_of_le_of_lt (Nat.div_le_self _ _) hs
 have d2:s / 2 ^ 8 < 4294967296:=Nat.lt_of_le_of_lt (Nat.div_le_self _ _) hs
 have d3:s / 2 ^ 24 < 256:=by omega
 obtain ⟨c0,g0,n0⟩:=pop_at d3
 obtain ⟨c1,g1,n1⟩:=pop_at (b:=s / 2 ^ 16 % 256) (Nat.mod_lt _ (by omega))
 obtain ⟨c2,g2,n2⟩:=pop_at (b:=s / 2 ^ 8 % 256) (Nat.mod_lt _ (by omega))
 obtain ⟨c3,g3,n3⟩:=pop_at (b:=s % 256) (Nat.mod_lt _ (by omega))
 rw [shr32 hs,shr32 hs,shr32 hs,and255 d1,and255 d2,and255 hs]
 show oo (str0[s / 2 ^ 24]?) none _ = _
 rw [g0,oo_some]
 show oo (str0[s / 2 ^ 16 % 256]?) none _ = _
 rw [g1,oo_some]
 show oo (str0[s / 2 ^ 8 % 256]?) none _ = _
 rw [g2,oo_some]
 show oo (str0[s % 256]?) none _ = _
 rw [g3,oo_some,n0,n1,n2,n3]
 have l0:=markF_len8 (s / 2 ^ 24)
 have l1:=markF_len8 (s / 2 ^ 16 % 256)
 have l2:=markF_len8 (s / 2 ^ 8 % 256)
 have l3:=markF_len8 (s % 256)
 show some (IV (wrapF .i64 (wrapF .u8 (Int.add (wrapF .u8 (Int.add (wrapF .u8 (Int.ofNat ((markF (s / 2 ^ 24) 8 0).length + (markF (s / 2 ^ 16 % 256) 8 0).length))) _)) _)))) = _
 rw [wrap8 (by omega)]
 show some (IV (wrapF .i64 (wrapF .u8 (Int.add (wrapF .u8 (Int.ofNat ((markF (s / 2 ^ 24) 8 0).length + (markF (s / 2 ^ 16 % 256) 8 0).length + (markF (s / 2 ^ 8 % 256) 8 0).length))) _)))) = _
 rw [wrap8 (by omega)]
 show some (IV (wrapF .i64 (wrapF .u8 (Int.ofNat ((markF (s / 2 ^ 24) 8 0).length + (markF (s / 2 ^ 16 % 256) 8 0).length + (markF (s / 2 ^ 8 % 256) 8 0).length + (markF (s % 256) 8 0).length))))) = _
 have e:(marksN 32 s).length = (markF (s / 2 ^ 24) 8 0).length + (markF (s / 2 ^ 16 % 256) 8 0).length + (markF (s / 2 ^ 8 % 256) 8 0).length + (markF (s % 256) 8 0).length:=by
  show (markF s (8 + (8 + (8 + 8))) 0).length = _
  rw [markF_add,markF_add,markF_add]
  simp only [List.length_append]
  have q0:=markF_shift hs 0 8 0 (by omega)
  have q1:=markF_shift hs 8 8 0 (by omega)
  have q2:=markF_shift hs 16 8 0 (by omega)
  have q3:=markF_shift hs 24 8 0 (by omega)
  rw [Nat.pow_zero,Nat.div_one] at q0
  rw [show s / 2 ^ 24 % 256 = s / 2 ^ 24 from Nat.mod_eq_of_lt d3] at q3
  simp only [Nat.zero_add] at q0 q1 q2 q3
  show (markF s 8 0).length + ((markF s 8 8).length + ((markF s 8 16).length + (markF s 8 24).length)) = _
  rw [q0,q1,q2,q3];omega
 generalize (markF (s / 2 ^ 24) 8 0).length = a0 at *
 generalize (markF (s / 2 ^ 16 % 256) 8 0).length = a1 at *
 generalize (markF (s / 2 ^ 8 % 256) 8 0).length = a2 at *
 generalize (markF (s % 256) 8 0).length = a3 at *
 rw [wrap8 (by omega),wrapI _ (by simp;omega) (by simp;omega),e]
end Go.RgP
set_option maxRecDepth 100000
set_option maxHeartbeats 4000000
namespace Go.RgP
open Go Go.Sp Go.RgGM
theorem fewer {s t:Nat} (hs:s < 4294967296) (hle:∀ q,t.testBit q = true→s.testBit q = true) (ht:t < s):(marksN 32 t).length < (marksN 32 s).length:=by
 have ht32:t < 4294967296:=by omega
 have e:marksN 32 t = (marksN 32 s).filter fun x=>t.testBit x:=by
  refine sorted_ext (marks_sorted ht32) (List.Pairwise.sublist List.filter_sublist (marks_sorted hs)) fun x=>?_
  rw [mem_marks ht32,List.mem_filter,mem_marks hs]
  exact ⟨fun h=>⟨⟨h.1,hle x h.2⟩,h.2⟩,fun h=>⟨h.1.1,h.2⟩⟩
 rw [e]
 have hle2:=List.filter_sublist (p:=fun x=>t.testBit x) (l:=marksN 32 s)
 refine Nat.lt_of_le_of_ne hle2.length_le fun he=>?_
 have:=hle2.eq_of_length he
 rw [←e] at this
 have h2:∀ q,q < 32→t.testBit q = s.testBit q:=fun q hq=>by
  have hm:q ∈ marksN 32 t↔q ∈ marksN 32 s:=by rw [this]
  rw [mem_marks ht32,mem_marks hs] at hm
  rw [Bool.eq_iff_iff]
  exact ⟨fun h=>(hm.1 ⟨hq,h⟩).2,fun h=>(hm.2 ⟨hq,h⟩).2⟩
 have:=set_ext (n:=32) (a:=t) (b:=s) ht32 hs h2
 omega
theorem stamp_loop (k : Nat) {n : Nat} (hn : n ≤ 21) : ∀ (w s : Nat), s < 2 ^ n → (marksN 32 s).length < w → ∃ t, l46_1 (puN (k + 1)) L w (Int.ofNat n) (Int.ofNat s) = some (tup2 (IV (Int.ofNat n)) (U t)) ∧ t < 2 ^ n ∧ (marksN 32 t).length ≤ 6
 | 0,_,_,h=>by omega
 | w + 1, s, hs, hw => by
  have hs32:=lt32 (by omega) hs
  have hb:l46_1 (puN (k + 1)) L (w + 1) (Int.ofNat n) (Int.ofNat s) = bb (Nat.blt 6 (marksN 32 s).length) (l46_1 (puN (k + 1)) L w (Int.ofNat n) (aand .u32 (Int.ofNat s) (wrapF .u32 (Int.sub (Int.ofNat s) (1:Int))))) (some (tup2 (IV (Int.ofNat n)) (U s))):=by
   show b46_1 (puN (k + 1)) L (l46_1 (puN (k + 1)) L w) (Int.ofNat n) (Int.ofNat s) = _
   unfold b46_1
   show oo (puN (k + 1) 50 [U s]) none _ = _
   rw [pu_ones k hs32,oo_some]
   show bb (ilt (Int.ofNat 6) (Int.ofNat (marksN 32 s).length)) _ _ = _
   rw [ilt_nat];rfl
  rw [hb]
  cases hc:Nat.blt 6 (marksN 32 s).length with
  | false =>
   rw [blt_eq] at hc
   exact ⟨s,rfl,hs,by simpa using hc⟩
  | true =>
   rw [blt_eq] at hc
   have hc:6 < (marksN 32 s).length:=by simpa using hc
   have hs0:0 < s:=by
    rcases Nat.eq_zero_or_pos s with h | h
    ·exfalso
     have:∀ x,x ∉ marksN 32 s:=fun x hx=>by
      have:=((mem_marks hs32).1 hx).2
      rw [h] at this;simp at this
     have:marksN 32 s = []:=List.eq_nil_iff_forall_not_mem.2 this
     rw [this] at hc;simp at hc
    ·exact h
   have hle:s &&& (s - 1)≤s - 1:=Nat.and_le_right
   have e:wrapF .u32 (Int.sub (Int.ofNat s) (1:Int)) = Int.ofNat (s - 1):=by
    rw [show Int.sub (Int.ofNat s) (1:Int) = Int.ofNat (s - 1) from by show (s:Int) - 1 = ((s - 1:Nat):Int);omega]
    exact wrap32 (by omega)
   rw [bb_true,e,aand32 hs32 (by omega)]
   have hf:=fewer (t:=s &&& (s - 1)) hs32 (fun q h=>by rw [Nat.testBit_and] at h;exact (Bool.and_eq_true _ _ ▸ h).1) (by omega)
   exact stamp_loop k hn w (s &&& (s - 1)) (by omega) (by omega)
theorem p46 (k:Nat) (args:List Value):puN (k + 1) 46 args = m46 (puN k) L args:=by kernel_rfl
theorem pu_stamp (k : Nat) {most p b : Nat} (hm0 : 0 < most) (hm : most ≤ 21) (hp : p < 256) (hb : b < 4294967296) : ∃ l, Good (1 + p % most) l ∧
 puN (k + 2) 46 [.agg ⟨[.int .u8 (Int.ofNat p),.int .u32 (Int.ofNat b)]⟩,IV (Int.ofNat most)] = some (tup2 (IV (Int.ofNat (1 + p % most))) (U (bitsOf l))):=by
 have hmod:p % most < most:=Nat.mod_lt _ hm0
 have h2n:2 ^ (1 + p % most) < 4294967296:=Nat.lt_of_le_of_lt (Nat.pow_le_pow_right (by omega) (show 1 + p % most≤21 by omega)) (by decide)
 have hpos:=Nat.two_pow_pos (1 + p % most)
 have hlt:b &&& (2 ^ (1 + p % most) - 1) < 2 ^ (1 + p % most):=by rw [Nat.and_two_pow_sub_one_eq_mod];exact Nat.mod_lt _ hpos
 have hlen:(marksN 32 (b &&& (2 ^ (1 + p % most) - 1))).length≤32:=marks_len
 obtain ⟨t,h1,h2,h3⟩:=stamp_loop k (n:=1 + p % most) (by omega) L (b &&& (2 ^ (1 + p % most) - 1)) hlt (by show _ < 1000000;omega)
 have ht32:=lt32 (n:=1 + p % most) (by omega) h2
 refine ⟨marksN (1 + p % most) t,⟨by omega,by omega,?_,marks_sorted ht32,fun x hx=>((mem_marks ht32).1 hx).1⟩,?_⟩
 ·rw [←marks_more (m:=32) ht32 h2 (by omega)];exact h3
 ·rw [bitsOf_marks (by omega) h2, p46]
  show m46_ (puN (k + 1)) L (Int.ofNat p) (Int.ofNat b) (Int.ofNat most) = _
  unfold m46_
  have e0:ieq (Int.ofNat most) 0 = false:=by rw [show (0:Int) = Int.ofNat 0 from rfl,ieq_nat];exact beq_ne (by omega)
  have e1:wrapF .i64 (Int.add (1:Int) (Int.tmod (wrapF .i64 (Int.ofNat p)) (Int.ofNat most))) = Int.ofNat (1 + p % most):=by
   rw [wrapI (Int.ofNat p) (by show (-9223372036854775808:Int)≤(p:Int);omega) (by show (p:Int)≤9223372036854775807;omega)]
   show wrapF .i64 ((1:Int) + Int.tmod (p:Int) (most:Int)) = (((1 + p % most:Nat)):Int)
   rw [Int.tmod_eq_emod_of_nonneg (by omega),←Int.natCast_emod,wrapI _ (by omega) (by omega)];omega
  rw [e0,show nt false = true from rfl,bb_true,e1]
  show oo (toN (Int.ofNat (1 + p % most))) none _ = _
  rw [show ∀ j,toN (Int.ofNat j) = some j from fun _=>rfl,oo_some,shl32 (by omega)]
  have e2:wrapF .u32 (Int.sub (Int.ofNat (2 ^ (1 + p % most))) (1:Int)) = Int.ofNat (2 ^ (1 + p % most) - 1):=by
   rw [show Int.sub (Int.ofNat (2 ^ (1 + p % most))) (1:Int) = Int.ofNat (2 ^ (1 + p % most) - 1) from by show ((2 ^ (1 + p % most):Nat):Int) - 1 = ((2 ^ (1 + p % most) - 1:Nat):Int);omega]
   exact wrap32 (by omega)
  rw [e2,aand32 hb (by omega),h1]
end Go.RgP
set_option maxRecDepth 100000
set_option maxHeartbeats 4000000
namespace Go.RgP
open Go Go.Sp Go.RgGM
theorem marks48_loop (pu : PureF) (L s : Nat) : ∀ (k w p c : Nat) (q : List Nat), k < w → p + k = 21 → q.length ≤ p → c / 2 = q.length → c % 2 = 0 →
 l48_1 pu L w (Int.ofNat s) q.length c (Int.ofNat p) (vL q) = some (slv (q ++ markF s k p))
 | k,0,_,_,_,h,_,_,_,_=>by omega
 | 0, w + 1, p, c, q, _, hk, _, _, _ => by
  show b48_1 pu L (l48_1 pu L w) (Int.ofNat s) q.length c (Int.ofNat p) (vL q) = _
  unfold b48_1
  rw [vL_closed,bb_true,show (21:Int) = Int.ofNat 21 from rfl,ilt_nat,show Nat.blt p 21 = false from by rw [blt_eq];simp;omega,bb_false]
  unfold m48_0
  rw [vL_closed,bb_true,fin_vL]
  show _ = some (slv (q ++ []))
  rw [List.append_nil]
 | k + 1, w + 1, p, c, q, hw, hk, hq, hc, hc2 => by
  show b48_1 pu L (l48_1 pu L w) (Int.ofNat s) q.length c (Int.ofNat p) (vL q) = _
  unfold b48_1
  rw [vL_closed,bb_true,show (21:Int) = Int.ofNat 21 from rfl,ilt_nat,show Nat.blt p 21 = true from by rw [blt_eq];simp;omega,bb_true]
  show bb (hasB s p) _ _ = _
  have hs:wrapF .i64 (Int.add (Int.ofNat p) 1) = Int.ofNat (p + 1):=wrapS p (by omega)
  unfold markF
  cases hasB s p with
  | false =>
   rw [bb_false]
   unfold m48_2
   rw [vL_closed,bb_true,hs]
   exact marks48_loop pu L s k w (p + 1) c q (by omega) (by omega) (by omega) hc hc2
  | true =>
   rw [bb_true,grow_vL (by omega) hc hc2,bb_true,vL_snoc,vL_closed,bb_true]
   unfold m48_2
   rw [vL_closed,bb_true,hs]
   have ih:=marks48_loop pu L s k w (p + 1) (2 * (q.length + 1) + bb false 1 0) (q ++ [p]) (by omega) (by omega) (by simp;omega) (by simp) (by simp)
   rw [List.length_append] at ih
   show l48_1 pu L w (Int.ofNat s) (q.length + 1) (2 * (q.length + 1) + bb false 1 0) (Int.ofNat (p + 1)) (vL (q ++ [p])) = _
   rw [show [p].length = 1 from rfl] at ih
   rw [ih,List.append_assoc];rfl
theorem p48 (k:Nat) (args:List Value):puN (k + 1) 48 args = m48 (puN k) L args:=by kernel_rfl
theorem pu_marks48 (k s:Nat):puN (k + 1) 48 [U s] = some (slv (marksN 21 s)):=by
 rw [p48];exact marks48_loop (puN k) L s 21 L 0 0 [] (by show 21 < 1000000;omega) rfl (by simp) rfl rfl
theorem p47 (k:Nat) (args:List Value):puN (k + 1) 47 args = m47 (puN k) L args:=by kernel_rfl
theorem pu_sealed (k n s:Nat):puN (k + 2) 47 [IV (Int.ofNat n),U s] = some (seaV n (marksN 21 s)):=by
 rw [p47]
 show oo (puN (k + 1) 48 [U s]) none _ = _
 rw [pu_marks48,oo_some];rfl
end Go.RgP
set_option maxRecDepth 100000
set_option maxHeartbeats 4000000
namespace Go.RgP
open Go Go.Sp Go.RgGM
theorem moved49_loop (pu : PureF) (L : Nat) {n : Nat} (hn0 : 0 < n) (hn : n ≤ 21) {m b : Int} (hm : -100 ≤ m) (hm2 : m ≤ 100) (hb : -100000000 ≤ b) (hb2 : b ≤ 100000000) {l : List Nat} (hl : ∀ x ∈ l, x < 32) (hl2 : l.length < 100) :
 ∀ (r:List Nat) (w i z:Nat),l.drop i = r→r.length < w→i≤l.length→z < 2 ^ n →
 l49_1 pu L w (Int.ofNat n) m b (Int.ofNat z) ⟨l.length,0,vL l⟩ (Int.ofNat l.length) (Int.ofNat i) = some (U (setOf (fun p=>plc n ((p:Int) * m + b)) r z))
 | _,0,_,_,_,h,_,_=>by omega
 | [], w + 1, i, z, hd, _, hi, _ => by
  show b49_1 pu L (l49_1 pu L w) (Int.ofNat n) m b (Int.ofNat z) ⟨l.length,0,vL l⟩ (Int.ofNat l.length) (Int.ofNat i) = _
  have:l.length≤i:=List.drop_eq_nil_iff.1 hd
  unfold b49_1
  rw [ilt_nat,show Nat.blt i l.length = false from by rw [blt_eq];simp;omega];rfl
 | p :: r, w + 1, i, z, hd, hw, hi, hz => by
  show b49_1 pu L (l49_1 pu L w) (Int.ofNat n) m b (Int.ofNat z) ⟨l.length,0,vL l⟩ (Int.ofNat l.length) (Int.ofNat i) = _
  obtain ⟨hd2,hi2,hb'⟩:=drop_next hd
  have hp:=hl p hb'
  have hr:(p :: r).length = r.length + 1:=rfl
  have hlt:Nat.blt i l.length = true:=by rw [blt_eq];simp;omega
  have hs:wrapF .i64 (Int.add (Int.ofNat i) 1) = Int.ofNat (i + 1):=wrapS i (by omega)
  have hpl:=plc_lt hn0 ((p:Int) * m + b)
  have hk:2 ^ plc n ((p:Int) * m + b) < 2 ^ n:=Nat.pow_lt_pow_right (by omega) hpl
  have hz2:z ||| 2 ^ plc n ((p:Int) * m + b) < 2 ^ n:=Nat.or_lt_two_pow hz hk
  have ih:=moved49_loop pu L hn0 hn hm hm2 hb hb2 hl hl2 r w (i + 1) _ hd2 (by omega) (by omega) hz2
  have b1:-3200≤(p:Int) * m:=by
   have:(p:Int) * (-100)≤(p:Int) * m:=Int.mul_le_mul_of_nonneg_left hm (by omega)
   omega
  have b2:(p:Int) * m≤3200:=by
   have:(p:Int) * m≤(p:Int) * 100:=Int.mul_le_mul_of_nonneg_left hm2 (by omega)
   omega
  have hne:ieq (Int.ofNat n) 0 = false:=by rw [show (0:Int) = Int.ofNat 0 from rfl,ieq_nat];exact beq_ne (by omega)
  have e1:wrapF .i64 (Int.mul (Int.ofNat p) m) = (p:Int) * m:=wrapI _ (by show _≤(p:Int) * m;omega) (by show (p:Int) * m≤_;omega)
  have e2:=rem2 hn0 (by omega) (x:=(p:Int) * m + b) (by omega) (by omega)
  unfold b49_1
  rw [ilt_nat,hlt,bb_true,show toN (Int.ofNat i) = some i from rfl,oo_some]
  show bb (an (Nat.blt i l.length) true) _ none = _
  rw [hlt,show an true true = true from rfl,bb_true]
  show oo (nthL (vL l) (i * 1)) none _ = _
  rw [vL_get hd,oo_some,show toI .i64 (IV (Int.ofNat p)) = some (Int.ofNat p) from rfl,oo_some,hne,show nt false = true from rfl,bb_true,bb_true,e1]
  show oo (toN (Int.tmod (wrapF .i64 (Int.add (Int.tmod (wrapF .i64 ((p:Int) * m + b)) (Int.ofNat n)) (Int.ofNat n))) (Int.ofNat n))) none _ = _
  rw [e2,show ∀ j,toN (Int.ofNat j) = some j from fun _=>rfl,oo_some,shl32 (by omega),aor32 (lt32 (by omega) hz) (lt32 (by omega) hk),hs,ih];rfl
theorem p49 (k:Nat) (args:List Value):puN (k + 1) 49 args = m49 (puN k) L args:=by kernel_rfl
theorem pu_moved (k : Nat) {n s : Nat} (hn0 : 0 < n) (hn : n ≤ 21) (hs : s < 2 ^ n) {m b : Int} (hm : -100 ≤ m) (hm2 : m ≤ 100) (hb : -100000000 ≤ b) (hb2 : b ≤ 100000000) :
 puN (k + 2) 49 [IV (Int.ofNat n),U s,IV m,IV b] = some (U (setOf (fun p=>plc n ((p:Int) * m + b)) (marksN n s) 0)):=by
 have hs32:=lt32 (by omega) hs
 have hl:=marks_len (n:=n) (s:=s)
 rw [p49]
 show oo (puN (k + 1) 48 [U s]) none _ = _
 rw [pu_marks48,oo_some,marks_more hs32 hs hn]
 exact moved49_loop (puN (k + 1)) L hn0 hn hm hm2 hb hb2 (fun x hx=>by have:=(mem_marks hs32).1 hx;omega) (by omega) _ L 0 0 (List.drop_zero) (by show _ < 1000000;omega) (by omega) (Nat.two_pow_pos n)
theorem pu_turned1 (k : Nat) {n s : Nat} (hn0 : 0 < n) (hn : n ≤ 21) (hs : s < 2 ^ n) {b : Int} (hb : -100000000 ≤ b) (hb2 : b ≤ 100000000) :
 puN (k + 2) 49 [IV (Int.ofNat n),U s,IV 1,IV b] = some (U (turnN n s (plc n b))):=by
 rw [pu_moved k hn0 hn hs (by omega) (by omega) hb hb2,←turn_moved hn0 (by omega) hs]
 simp only [Int.mul_one]
end Go.RgP
set_option maxRecDepth 100000
set_option maxHeartbeats 4000000
namespace Go.RgP
open Go Go.Sp Go.RgGM
theorem ret51 (pu:PureF) (L:Nat) (q:List Nat) (c:Nat):m51_0 pu L q.length c (vL q) = some (slv q):=by
 unfold m51_0
 rw [vL_closed,bb_true,fin_vL]
theorem apart_loop (k : Nat) {n s : Nat} (hn : n ≤ 21) (hs : s < 2 ^ n) : ∀ (j w d c : Nat) (q : List Nat), j < w → d + j = n → 0 < d → q.length = d - 1 → c / 2 = q.length → c % 2 = 0 →
 l51_1 (puN (k + 2)) L w (Int.ofNat n) (Int.ofNat s) q.length c (Int.ofNat d) (vL q) = some (slv (q ++ (List.range j).map fun i=>cntD n (marksN n s) (d + i)))
 | j,0,_,_,_,h,_,_,_,_,_=>by omega
 | 0, w + 1, d, c, q, _, hd, h0, _, _, _ => by
  show b51_1 (puN (k + 2)) L (l51_1 (puN (k + 2)) L w) (Int.ofNat n) (Int.ofNat s) q.length c (Int.ofNat d) (vL q) = _
  unfold b51_1
  rw [vL_closed,bb_true,ilt_nat,show Nat.blt d n = false from by rw [blt_eq];simp;omega,bb_false,ret51]
  show _ = some (slv (q ++ []))
  rw [List.append_nil]
 | j + 1, w + 1, d, c, q, hw, hd, h0, hq, hc, hc2 => by
  show b51_1 (puN (k + 2)) L (l51_1 (puN (k + 2)) L w) (Int.ofNat n) (Int.ofNat s) q.length c (Int.ofNat d) (vL q) = _
  have hs32:=lt32 (by omega) hs
  have hand:s &&& turnN n s d < 4294967296:=Nat.lt_of_le_of_lt Nat.and_le_left hs32
  unfold b51_1
  rw [vL_closed,bb_true,ilt_nat,show Nat.blt d n = true from by rw [blt_eq];simp;omega,bb_true]
  have hmv:puN (k + 2) 49 [(.int .i64 (Int.ofNat n)),(.int .u32 (Int.ofNat s)),(.int .i64 (1:Int)),(.int .i64 (Int.ofNat d))] = some (U (turnN n s d)):=by
   have:=pu_turned1 k (n:=n) (s:=s) (by omega) hn hs (b:=(d:Int)) (by omega) (by omega)
   rw [show plc n (d:Int) = d from by rw [plc_nat];exact Nat.mod_eq_of_lt (by omega)] at this
   exact this
  have hon:puN (k + 2) 50 [.int .u32 (Int.ofNat (s &&& turnN n s d))] = some (IV (Int.ofNat (cntD n (marksN n s) d))):=by
   have:=pu_ones (k + 1) hand
   rw [common_cnt (by omega) hs h0 (by omega) (by omega)] at this;exact this
  rw [hmv,oo_some]
  show oo (puN (k + 2) 50 [.int .u32 (aand .u32 (Int.ofNat s) (Int.ofNat (turnN n s d)))]) none _ = _
  rw [aand32 hs32 (lt32 (n:=n) (by omega) turn_lt),hon,oo_some]
  show bb (growC 1 8 q.length c 1 (vL q)) (bb (allL closed1 (appL (dropL 0 (vL q)) [.int .i64 (Int.ofNat (cntD n (marksN n s) d))])) (l51_1 (puN (k + 2)) L w (Int.ofNat n) (Int.ofNat s) (q.length + 1) (2 * (q.length + 1) + bb false 1 0) (wrapF .i64 (Int.add (Int.ofNat d) (1:Int))) (appL (dropL 0 (vL q)) [.int .i64 (Int.ofNat (cntD n (marksN n s) d))])) none) none = _
  rw [grow_vL (by omega) hc hc2,bb_true,vL_snoc,vL_closed,bb_true,wrapS d (by omega)]
  have ih:=apart_loop k hn hs j w (d + 1) (2 * (q.length + 1) + bb false 1 0) (q ++ [cntD n (marksN n s) d]) (by omega) (by omega) (by omega) (by simp;omega) (by simp) (by simp)
  rw [List.length_append,show [cntD n (marksN n s) d].length = 1 from rfl] at ih
  rw [ih,List.append_assoc,List.range_succ_eq_map,List.map_cons,List.map_map]
  congr 4
  show [cntD n (marksN n s) d] ++ _ = _
  rw [List.singleton_append,Nat.add_zero]
  congr 1
  apply List.map_congr_left
  intro i _
  show cntD n (marksN n s) (d + 1 + i) = cntD n (marksN n s) (d + (i + 1))
  rw [show d + 1 + i = d + (i + 1) by omega]
theorem p51 (k:Nat) (args:List Value):puN (k + 1) 51 args = m51 (puN k) L args:=by kernel_rfl
theorem pu_apart (k:Nat) {n s:Nat} (hn0:0 < n) (hn:n≤21) (hs:s < 2 ^ n):puN (k + 3) 51 [IV (Int.ofNat n),U s] = some (slv (dists n (marksN n s))):=by
 rw [p51]
 have h:=apart_loop k hn hs (n - 1) L 1 0 [] (by show n - 1 < 1000000;omega) (by omega) (by omega) rfl rfl rfl
 show l51_1 (puN (k + 2)) L L (Int.ofNat n) (Int.ofNat s) 0 0 (1:Int) (vL []) = _
 have e:(List.range (n - 1)).map (fun i=>cntD n (marksN n s) (1 + i)) = dists n (marksN n s):=by
  unfold dists
  apply List.map_congr_left
  intro i _
  rw [Nat.add_comm]
 rw [List.nil_append,e] at h
 exact h
end Go.RgP
set_option maxRecDepth 100000
set_option maxHeartbeats 4000000
namespace Go.RgP
open Go Go.Sp Go.RgGM
theorem p31 (k:Nat) (args:List Value):puN (k + 1) 31 args = m31 (puN k) L args:=by kernel_rfl
theorem pu_perfect (k f:Nat) {n:Nat} {l:List Nat} (h:Good n l):puN (k + 6) 31 [seaF n f l] = some (tup2 (.bool (perfD n l)) (IV 0)):=by
 have h2:=h.le
 rw [p31]
 show oo (puN (k + 5) 61 [seaF n f l]) none _ = _
 rw [show puN (k + 5) 61 [seaF n f l] = _ from pu_opened (k + 3) f h.pos h.le h.few h.up h.lt,oo_some]
 show oo (puN (k + 5) 78 [tv n (bitsOf l)]) none _ = _
 rw [pu_perf k h.pos (by omega),perfN_eq h.lt32,h.marks,oo_some];rfl
theorem perf_many {n:Nat} {l:List Nat} (hn0:0 < n) (hl:l.Nodup) (hlt:∀ x ∈ l,x < n) (h:perfD n l = true):l.length * (l.length - 1) + 1 = n:=by
 have h1:=perfD_iff.1 h
 have h2:=dists_sum hl hlt
 have h3:∀ m:List Nat,(∀ i ∈ m,i < n - 1)→(m.map fun i=>cntD n l (i + 1)).sum = m.length:=fun m=>by
  induction m with
  | nil=>intro _;rfl
  | cons i m ih =>
   intro hm
   have:=hm i List.mem_cons_self
   rw [List.map_cons,List.sum_cons,ih fun x hx=>hm x (List.mem_cons_of_mem _ hx),h1 (i + 1) (by omega) (by omega),List.length_cons];omega
 have h4:(dists n l).sum = n - 1:=by
  unfold dists
  rw [h3 _ fun i hi=>List.mem_range.1 hi,List.length_range]
 omega
noncomputable def pick1 (m c:Nat) (st:Option (List Nat)) (x:Nat):Option (List Nat):=
 bif Nat.beq (len (marksN m x)) c && perfD m (marksN m x) then oo st (some (marksN m x)) fun b=>bif lexB (marksN m x) b then some (marksN m x) else some b else st
noncomputable def stFlag (st:Option (List Nat)):Bool:=oo st false fun _=>true
noncomputable def stSl (st:Option (List Nat)):Sl:=oo st ⟨0,2,[]⟩ fun b=>⟨b.length,0,vL b⟩
def tabF (m c:Nat):Option (List Nat):=bif Nat.beq (c * (c - 1) + 1) m then bif Nat.beq c 0 then some [] else bif Nat.beq c 1 then some [0] else bif Nat.beq c 2 then some [0,1] else bif Nat.beq c 3 then some [0,1,3] else some [0,1,3,9] else none
noncomputable def findF (m c:Nat):Value:=oo (tabF m c) (tup2 (.agg ⟨[IV 0,Value.slice none 0 0]⟩) (IV 12)) fun l=>tup2 (.agg ⟨[IV (Int.ofNat m),slv l]⟩) (IV 0)
noncomputable def findL (m c:Nat):Value:=oo (tabF m c) (tup2 (.agg ⟨[IV 0,Sl.v 1 ⟨0,2,[]⟩]⟩) (IV 12)) fun l=>tup2 (.agg ⟨[IV (Int.ofNat m),slv l]⟩) (IV 0)
theorem pick_table:∀ p ∈ [(1,0),(1,1),(3,2),(7,3),(13,4)],(List.range (2 ^ p.1)).foldl (pick1 p.1 p.2) none = tabF p.1 p.2:=by
 have h:mapL (fun p:Nat×Nat=>(List.range (2 ^ p.1)).foldl (pick1 p.1 p.2) none) [(1,0),(1,1),(3,2),(7,3),(13,4)] = mapL (fun p:Nat×Nat=>tabF p.1 p.2) [(1,0),(1,1),(3,2),(7,3),(13,4)]:=by kernel_rfl
 intro p hp
 simp only [List.mem_cons,List.not_mem_nil,or_false] at hp
 injection h with h1 h
 injection h with h2 h
 injection h with h3 h
 injection h with h4 h
 injection h with h5 h
 rcases hp with rfl | rfl | rfl | rfl | rfl
 ·exact h1
 ·exact h2
 ·exact h3
 ·exact h4
 ·exact h5
end Go.RgP
set_option maxRecDepth 100000
set_option maxHeartbeats 4000000
namespace Go.RgP
open Go Go.Sp Go.RgGM
theorem all_dists (m:Nat) (l:List Nat):((dists m l).all fun d=>d == 1) = perfD m l:=by
 unfold dists perfD
 rw [List.all_map];rfl
theorem ieq_one (d:Nat):ieq (Int.ofNat d) (1:Int) = (d == 1):=by
 rw [show (1:Int) = Int.ofNat 1 from rfl,ieq_nat,beq_dec]
 by_cases h:d = 1
 ·subst h;rfl
 ·rw [decide_eq_false h];symm;simpa using h
theorem once_inner (pu : PureF) (L : Nat) (ih0 : Int → Int → Int → Sl → Bool → Int → Int → Int → Sl → Option Value) (c m e : Int) (s : Sl) (bs : Bool) (N x zp : Int) (sf : Sl) {l : List Nat} (hl : l.length < 900000) : ∀ (r : List Nat) (w i : Nat) (b : Bool), l.drop i = r → r.length < w → i ≤ l.length →
 l7_9 pu L ih0 w c m e s bs x b N x ⟨l.length,0,vL l⟩ (Int.ofNat l.length) (Int.ofNat i) zp sf = m7_7 pu L ih0 c m e s bs x (b && r.all fun d=>d == 1) N x zp sf
 | _,0,_,_,_,h,_=>by omega
 | [], w + 1, i, b, hd, _, hi => by
  show b7_9 pu L ih0 (l7_9 pu L ih0 w) c m e s bs x b N x ⟨l.length,0,vL l⟩ (Int.ofNat l.length) (Int.ofNat i) zp sf = _
  have h1:l.length≤i:=List.drop_eq_nil_iff.1 hd
  unfold b7_9
  rw [ilt_nat,show Nat.blt i l.length = false from by rw [blt_eq];simp;omega,bb_false,List.all_nil,Bool.and_true]
 | d :: r, w + 1, i, b, hd, hw, hi => by
  show b7_9 pu L ih0 (l7_9 pu L ih0 w) c m e s bs x b N x ⟨l.length,0,vL l⟩ (Int.ofNat l.length) (Int.ofNat i) zp sf = _
  obtain ⟨hd2,hi2,_⟩:=drop_next hd
  have hr:(d :: r).length = r.length + 1:=rfl
  have hlt:Nat.blt i l.length = true:=by rw [blt_eq];simp;omega
  have ih:=fun b=>once_inner pu L ih0 c m e s bs N x zp sf hl r w (i + 1) b hd2 (by omega) (by omega)
  unfold b7_9
  rw [ilt_nat,hlt,bb_true,show toN (Int.ofNat i) = some i from rfl,oo_some]
  show bb (an (Nat.blt i l.length) true) (oo (nthL (vL l) (i * 1)) none _) none = _
  rw [hlt,show an true true = true from rfl,bb_true,vL_get hd,oo_some,show ∀ z,toI .i64 (IV z) = some z from fun _=>rfl,oo_some,wrapS i (by omega),ieq_one,ih,ih,List.all_cons]
  cases b <;> rfl
theorem once_loop (pu : PureF) (L : Nat) (hL : 30 < L) {m c : Nat} (hm : m ≤ 13) (e zp : Int) (sf : Sl)
 (h50:∀ x,x < 2 ^ m→pu 50 [U x] = some (IV (Int.ofNat (marksN m x).length))) (h51:∀ x,x < 2 ^ m→pu 51 [IV (Int.ofNat m),U x] = some (slv (dists m (marksN m x))))
 (h48:∀ x,x < 2 ^ m→pu 48 [U x] = some (slv (marksN m x))) (h52:∀ a b:List Nat,a.length < 900000→pu 52 [slv a,slv b] = some (IV (cmpN a b))):∀ (k w x:Nat) (st:Option (List Nat)),x + k = 2 ^ m→k < w →
 l7_5 pu L w (Int.ofNat c) (Int.ofNat m) e (stSl st) (stFlag st) (Int.ofNat (2 ^ m)) (Int.ofNat x) zp sf = m7_2 pu L (Int.ofNat c) (Int.ofNat m) e (stSl ((List.range' x k).foldl (pick1 m c) st)) (stFlag ((List.range' x k).foldl (pick1 m c) st)) zp sf
 | _,0,_,_,_,h=>by omega
 | 0, w + 1, x, st, hx, _ => by
  show b7_5 pu L (l7_5 pu L w) (Int.ofNat c) (Int.ofNat m) e (stSl st) (stFlag st) (Int.ofNat (2 ^ m)) (Int.ofNat x) zp sf = _
  unfold b7_5
  rw [ilt_nat,show Nat.blt x (2 ^ m) = false from by rw [blt_eq];simp;omega,bb_false];rfl
 | k + 1, w + 1, x, st, hx, hw => by
  show b7_5 pu L (l7_5 pu L w) (Int.ofNat c) (Int.ofNat m) e (stSl st) (stFlag st) (Int.ofNat (2 ^ m)) (Int.ofNat x) zp sf = _
  have hp:2 ^ m≤8192:=Nat.pow_le_pow_right (by omega:0 < 2) hm
  have hxl:x < 2 ^ m:=by omega
  have ih:=fun st=>once_loop (c:=c) pu L hL hm e zp sf h50 h51 h48 h52 k w (x + 1) st (by omega) (by omega)
  have hml:=marks_len (n:=m) (s:=x)
  have hdl:=dists_len m (marksN m x)
  have m6:∀ st,m7_6 pu L (l7_5 pu L w) (Int.ofNat c) (Int.ofNat m) e (stSl st) (stFlag st) (Int.ofNat (2 ^ m)) (Int.ofNat x) zp sf = m7_2 pu L (Int.ofNat c) (Int.ofNat m) e (stSl ((List.range' (x + 1) k).foldl (pick1 m c) st)) (stFlag ((List.range' (x + 1) k).foldl (pick1 m c) st)) zp sf:=fun st=>by
   show l7_5 pu L w (Int.ofNat c) (Int.ofNat m) e (stSl st) (stFlag st) (Int.ofNat (2 ^ m)) (wrapF .u32 (Int.ofNat (x + 1))) zp sf = _
   rw [wrap32 (by omega),ih]
  rw [List.range'_succ,List.foldl_cons]
  unfold b7_5
  rw [ilt_nat,show Nat.blt x (2 ^ m) = true from by rw [blt_eq];simpa using hxl,bb_true]
  show oo (pu 50 [U x]) none _ = _
  rw [h50 x hxl,oo_some,show ∀ z,toI .i64 (IV z) = some z from fun _=>rfl,oo_some,ieq_nat]
  have hlen:len (marksN m x) = (marksN m x).length:=len_eq _
  cases hc:Nat.beq (marksN m x).length c with
  | false =>
   have:pick1 m c st x = st:=by unfold pick1;rw [hlen,hc];rfl
   rw [this];exact m6 st
  | true =>
   rw [show nt true = false from rfl,bb_false]
   show oo (pu 51 [IV (Int.ofNat m),U x]) none _ = _
   rw [h51 x hxl,oo_some,show toSl 1 (slv (dists m (marksN m x))) = some ⟨(dists m (marksN m x)).length,0,vL (dists m (marksN m x))⟩ from rfl,oo_some]
   have:=once_inner pu L (l7_5 pu L w) (Int.ofNat c) (Int.ofNat m) e (stSl st) (stFlag st) (Int.ofNat (2 ^ m)) (Int.ofNat x) zp sf (l:=dists m (marksN m x)) (by omega) _ L 0 true List.drop_zero (by omega) (by omega)
   rw [all_dists,Bool.true_and] at this
   refine Eq.trans this ?_
   have hpk:pick1 m c st x = bif perfD m (marksN m x) then oo st (some (marksN m x)) fun b=>bif lexB (marksN m x) b then some (marksN m x) else some b else st:=by
    unfold pick1;rw [hlen,hc,Bool.true_and]
   rw [hpk]
   have m8t:m7_8 pu L (l7_5 pu L w) (Int.ofNat c) (Int.ofNat m) e (stSl st) (stFlag st) (Int.ofNat x) (Int.ofNat (2 ^ m)) (Int.ofNat x) true zp sf = m7_2 pu L (Int.ofNat c) (Int.ofNat m) e (stSl ((List.range' (x + 1) k).foldl (pick1 m c) (some (marksN m x)))) (stFlag ((List.range' (x + 1) k).foldl (pick1 m c) (some (marksN m x)))) zp sf:=by
    unfold m7_8
    rw [bb_true]
    show oo (pu 48 [U x]) none _ = _
    rw [h48 x hxl,oo_some,show toSl 1 (slv (marksN m x)) = some (stSl (some (marksN m x))) from rfl,oo_some]
    exact m6 (some (marksN m x))
   cases hq:perfD m (marksN m x) with
   | false =>
    show m7_8 pu L (l7_5 pu L w) (Int.ofNat c) (Int.ofNat m) e (stSl st) (stFlag st) (Int.ofNat x) (Int.ofNat (2 ^ m)) (Int.ofNat x) false zp sf = _
    exact m6 st
   | true =>
    unfold m7_7
    rw [bb_true]
    cases st with
    | none=>exact m8t
    | some b =>
     show oo (pu 48 [U x]) none _ = _
     rw [h48 x hxl,oo_some,show toSl 1 (slv (marksN m x)) = some ⟨(marksN m x).length,0,vL (marksN m x)⟩ from rfl,oo_some]
     show oo (pu 52 [slv (marksN m x),slv b]) none _ = _
     rw [h52 _ _ (by omega),oo_some,show ∀ z,toI .i64 (IV z) = some z from fun _=>rfl,oo_some,cmp_neg]
     show _ = m7_2 pu L (Int.ofNat c) (Int.ofNat m) e (stSl ((List.range' (x + 1) k).foldl (pick1 m c) (bif lexB (marksN m x) b then some (marksN m x) else some b))) (stFlag ((List.range' (x + 1) k).foldl (pick1 m c) (bif lexB (marksN m x) b then some (marksN m x) else some b))) zp sf
     cases lexB (marksN m x) b with
     | true=>exact m8t
     | false=>exact m6 (some b)
theorem turns_loop (pu : PureF) (L : Nat) {n : Nat} {l : List Nat} (h : Good n l) (k p b : Int) (h47 : pu 47 [IV (Int.ofNat n), U (bitsOf l)] = some (seaV n l))
 (h33:∀ d:Nat,d < n→pu 10330 [seaV n l,slI 0 [Int.ofNat d]] = some (.tuple ⟨[tup2 (slv (marksN n (bitsOf l &&& turnN n (bitsOf l) d))) (IV 0)]⟩)) (h49:∀ d:Nat,d < n→pu 49 [IV (Int.ofNat n),U (bitsOf l),IV 1,IV (Int.ofNat d)] = some (U (turnN n (bitsOf l) d)))
 (h48:∀ d:Nat,d < n→pu 48 [U (bitsOf l &&& turnN n (bitsOf l) d)] = some (slv (marksN n (bitsOf l &&& turnN n (bitsOf l) d)))) (h23:∀ a:List Nat,a.length < 900000→pu 23 [slv a,slv a] = some (.bool true)):∀ (j w d:Nat) (a:Bool),d + j = n→j < w→0 < d →
 l7_10 pu L w k (Int.ofNat n) (Int.ofNat (bitsOf l)) a (Int.ofNat d) p b = m7_0 pu L k (Int.ofNat n) (Int.ofNat (bitsOf l)) (a && (List.range' d j).all fun d=>cntD n l d == 1) p b
 | _,0,_,_,_,h,_=>by omega
 | 0, w + 1, d, a, hd, _, _ => by
  show b7_10 pu L (l7_10 pu L w) k (Int.ofNat n) (Int.ofNat (bitsOf l)) a (Int.ofNat d) p b = _
  unfold b7_10
  rw [ilt_nat,show Nat.blt d n = false from by rw [blt_eq];simp;omega,bb_false,List.range'_zero,List.all_nil,Bool.and_true]
 | j + 1, w + 1, d, a, hd, hw, hd0 => by
  show b7_10 pu L (l7_10 pu L w) k (Int.ofNat n) (Int.ofNat (bitsOf l)) a (Int.ofNat d) p b = _
  have hdn:d < n:=by omega
  have hn:=h.le
  have ih:=fun a=>turns_loop pu L h k p b h47 h33 h49 h48 h23 j w (d + 1) a (by omega) (by omega) (by omega)
  have hml:=marks_len (n:=n) (s:=bitsOf l &&& turnN n (bitsOf l) d)
  have hcnt:(marksN n (bitsOf l &&& turnN n (bitsOf l) d)).length = cntD n l d:=by
   have:=common_cnt (n:=n) (by omega) (bitsOf_lt h.lt) hd0 hdn (m:=n) (Nat.le_refl n)
   rw [h.marks] at this;exact this
  unfold b7_10
  rw [ilt_nat,show Nat.blt d n = true from by rw [blt_eq];simpa using hdn,bb_true]
  show oo (pu 47 [IV (Int.ofNat n),U (bitsOf l)]) none _ = _
  rw [h47,oo_some]
  show oo (pu 10330 [seaV n l,slI 0 [Int.ofNat d]]) none _ = _
  rw [h33 d hdn,oo_some]
  show oo (pu 49 [IV (Int.ofNat n),U (bitsOf l),IV 1,IV (Int.ofNat d)]) none _ = _
  rw [h49 d hdn,oo_some]
  show oo (pu 48 [.int .u32 (aand .u32 (Int.ofNat (bitsOf l)) (Int.ofNat (turnN n (bitsOf l) d)))]) none _ = _
  rw [aand32 h.lt32 (lt32 (n:=n) (by omega) turn_lt)]
  show oo (pu 48 [U (bitsOf l &&& turnN n (bitsOf l) d)]) none _ = _
  rw [h48 d hdn,oo_some]
  show oo (pu 23 [slv (marksN n (bitsOf l &&& turnN n (bitsOf l) d)),slv (marksN n (bitsOf l &&& turnN n (bitsOf l) d))]) none _ = _
  rw [h23 _ (by omega),oo_some]
  show bb a (l7_10 pu L w k (Int.ofNat n) (Int.ofNat (bitsOf l)) (ieq (Int.ofNat (marksN n (bitsOf l &&& turnN n (bitsOf l) d)).length) (1:Int)) (wrapF .i64 (Int.add (Int.ofNat d) (1:Int))) p b) (l7_10 pu L w k (Int.ofNat n) (Int.ofNat (bitsOf l)) false (wrapF .i64 (Int.add (Int.ofNat d) (1:Int))) p b) = _
  rw [wrapS d (by omega),ieq_one,hcnt,ih,ih,List.range'_succ,List.all_cons]
  cases a <;> rfl
theorem perfD_range (n:Nat) (l:List Nat):((List.range' 1 (n - 1)).all fun d=>cntD n l d == 1) = perfD n l:=by
 unfold perfD
 rw [List.range'_eq_map_range,List.all_map]
 congr 1
 funext i
 show (cntD n l (1 + i) == 1) = _
 rw [Nat.add_comm]
theorem fold_id {α β : Type} {f : α → β → α} {st : α} : ∀ {l : List β}, (∀ x ∈ l, f st x = st) → l.foldl f st = st
 | [],_=>rfl
 | x :: l, h => by
  rw [List.foldl_cons,h x List.mem_cons_self];exact fold_id fun y hy=>h y (List.mem_cons_of_mem _ hy)
theorem pick_all {m c:Nat} (hm0:0 < m) (hm:m≤13) (hc:c≤6):(List.range' 0 (2 ^ m)).foldl (pick1 m c) none = tabF m c:=by
 rw [←List.range_eq_range']
 by_cases h:c * (c - 1) + 1 = m
 ·have : (m, c) ∈ [(1, 0), (1, 1), (3, 2), (7, 3), (13, 4)] := by
   subst h
   match c,hc,hm with
   | 0,_,_=>simp
   | 1,_,_=>simp
   | 2,_,_=>simp
   | 3,_,_=>simp
   | 4,_,_=>simp
   | 5,_,h=>omega
   | 6,_,h=>omega
  exact pick_table _ this
 ·have ht : tabF m c = none := by unfold tabF; rw [beq_ne h]; rfl
  rw [ht]
  refine fold_id fun x hx=>?_
  have hx2:x < 2 ^ m:=List.mem_range.1 hx
  have hp:2 ^ m≤8192:=Nat.pow_le_pow_right (by omega:0 < 2) hm
  unfold pick1
  cases h1:Nat.beq (len (marksN m x)) c with
  | false=>rfl
  | true =>
   cases h2:perfD m (marksN m x) with
   | false=>rfl
   | true =>
    exfalso
    have e1:=Nat.eq_of_beq_eq_true h1
    rw [len_eq] at e1
    have h32:x < 4294967296:=by omega
    have:=perf_many hm0 (nodup_of_lt (marks_sorted h32)) (fun y hy=>((mem_marks h32).1 hy).1) h2
    rw [e1] at this
    exact h this
end Go.RgP
