/- Made from wip. -/
import Derived.Test.YtenlanbdolnhhaaRgDT2x

set_option maxRecDepth 100000
set_option maxHeartbeats 2000000
namespace Go.RgP
open Go Go.Sp
def setOf (f:Nat→Nat) (l:List Nat) (z:Nat):Nat:=l.foldl (fun z p=>z ||| 2 ^ f p) z
theorem setOf_bit (f : Nat → Nat) : ∀ (l : List Nat) (z q : Nat), (setOf f l z).testBit q = (z.testBit q || l.any fun p => decide (f p = q))
 | [],z,q=>by simp [setOf]
 | p :: l, z, q => by
  show (setOf f l (z ||| 2 ^ f p)).testBit q = _
  rw [setOf_bit f l,Nat.testBit_or,Nat.testBit_two_pow,List.any_cons,Bool.or_assoc]
theorem setOf_lt (f:Nat→Nat) {n:Nat} {l:List Nat} {z:Nat} (hz:z < 2 ^ n) (h:∀ p ∈ l,f p < n):setOf f l z < 2 ^ n:=by
 refine Nat.lt_pow_two_of_testBit _ fun i hi=>?_
 rw [setOf_bit,Nat.testBit_lt_two_pow (Nat.lt_of_lt_of_le hz (Nat.pow_le_pow_right (by omega) hi)),Bool.false_or,List.any_eq_false]
 intro p hp
 have:=h p hp
 simp;omega
def turnN (n s b:Nat):Nat:=(((s * 2 ^ b) % 4294967296) ||| (s / 2 ^ (n - b))) &&& (2 ^ n - 1)
theorem turn_bit {n s b:Nat} (hn:n≤31) (hs:s < 2 ^ n) (hb:b < n) (q:Nat):(turnN n s b).testBit q = (decide (q < n) && s.testBit ((q + (n - b)) % n)):=by
 unfold turnN
 rw [Nat.testBit_and,Nat.testBit_two_pow_sub_one,Nat.testBit_or,show (4294967296:Nat) = 2 ^ 32 from rfl,Nat.testBit_mod_two_pow,←Nat.shiftLeft_eq,Nat.testBit_shiftLeft,←Nat.shiftRight_eq_div_pow,Nat.testBit_shiftRight]
 by_cases hq:q < n
 ·have h32 : q < 32 := by omega
  simp only [hq,h32,decide_true,Bool.true_and,Bool.and_true]
  by_cases h:b≤q
  ·have e1 : (q + (n - b)) % n = q - b := by rw [show q + (n - b) = (q - b) + n by omega, Nat.add_mod_right, Nat.mod_eq_of_lt (by omega)]
   have e2:s.testBit (n - b + q) = false:=Nat.testBit_lt_two_pow (Nat.lt_of_lt_of_le hs (Nat.pow_le_pow_right (by omega) (by omega)))
   rw [e1,e2];simp [h]
  ·have e1 : (q + (n - b)) % n = n - b + q := by rw [Nat.mod_eq_of_lt (by omega)]; omega
   rw [e1];simp [h]
 ·simp [hq]
theorem turn_lt {n s b:Nat}:turnN n s b < 2 ^ n:=by
 unfold turnN
 rw [Nat.and_two_pow_sub_one_eq_mod]
 exact Nat.mod_lt _ (Nat.two_pow_pos n)
theorem lt32 {n s:Nat} (hn:n≤31) (hs:s < 2 ^ n):s < 4294967296:=Nat.lt_of_lt_of_le hs (Nat.le_trans (Nat.pow_le_pow_right (by omega) hn) (by decide))
def plc (n:Nat) (x:Int):Nat:=(x % (n:Int)).toNat
theorem plc_lt {n:Nat} (hn:0 < n) (x:Int):plc n x < n:=by
 have h1:=Int.emod_nonneg x (show (n:Int) ≠ 0 by omega)
 have h2:=Int.emod_lt_of_pos x (show (0:Int) < n by omega)
 unfold plc;omega
theorem plc_cast {n:Nat} (hn:0 < n) (x:Int):((plc n x:Nat):Int) = x % (n:Int):=by
 have h1:=Int.emod_nonneg x (show (n:Int) ≠ 0 by omega)
 unfold plc;omega
theorem plc_nat {n:Nat} (a:Nat):plc n (a:Int) = a % n:=by
 unfold plc;rw [←Int.natCast_emod];rfl
end Go.RgP
set_option maxRecDepth 100000
set_option maxHeartbeats 4000000
namespace Go.RgP
open Go Go.Sp Go.RgDM
noncomputable def slv (l:List Nat):Value:=Sl.v 1 ⟨l.length,0,vL l⟩
theorem vL_snoc (q:List Nat) (p:Nat):appL (dropL 0 (vL q)) [.int .i64 (Int.ofNat p)] = vL (q ++ [p]):=by
 rw [appL_eq,dropL_eq,List.drop_zero];unfold vL;rw [List.map_append];rfl
theorem grow_vL {q:List Nat} {c:Nat} (hq:q.length≤2000) (hc:c / 2 = q.length) (hc2:c % 2 = 0):growC 1 8 q.length c 1 (vL q) = true:=by
 unfold growC roomy
 rw [len_eq,vL_len,hc,hc2]
 rw [show Nat.ble ((4 * (q.length + 1) + 4096) * 8) 281474976710656 = true from Nat.ble_eq_true_of_le (by omega),show Nat.ble (q.length + 1) q.length = false from by rw [ble_eq];simp,show Nat.ble (0 + q.length * 1) q.length = true from Nat.ble_eq_true_of_le (by omega),show Nat.beq (0 + q.length * 1) q.length = true from by simp]
 rfl
theorem fin_vL (q:List Nat):bb (an (Nat.ble (0 + q.length * 1) (len (vL q))) (allL closed1 (takeL (q.length * 1) (dropL 0 (vL q))))) (some (Sl.v 1 (Sl.mk q.length 0 (takeL (q.length * 1) (dropL 0 (vL q)))))) none = some (slv q):=by
 have e1:takeL (q.length * 1) (dropL 0 (vL q)) = vL q:=by
  rw [takeL_eq,dropL_eq,List.drop_zero,Nat.mul_one,←vL_len q,List.take_length]
 rw [e1,vL_closed,len_eq,vL_len,show Nat.ble (0 + q.length * 1) q.length = true from Nat.ble_eq_true_of_le (by omega)];rfl
theorem marks_len {n s:Nat}:(marksN n s).length≤n:=markF_len s n 0
def iLI (l:List Int):List Value:=l.map IV
theorem vL_iLI (l:List Nat):vL l = iLI (l.map Int.ofNat):=by unfold vL iLI;rw [List.map_map];rfl
theorem iLI_get {l:List Int} {i:Nat} {b:Int} {r:List Int} (h:l.drop i = b :: r):nthL (iLI l) (i * 1) = some (IV b):=by
 rw [nthL_eq,Nat.mul_one]
 have:l[i]? = some b:=by
  have:=congrArg List.head? h
  rw [List.head?_drop] at this;exact this
 unfold iLI
 rw [List.getElem?_map,this];rfl
theorem dropI_next {l:List Int} {i:Nat} {b:Int} {r:List Int} (h:l.drop i = b :: r):l.drop (i + 1) = r∧i < l.length∧b ∈ l:=by
 refine ⟨?_,?_,?_⟩
 ·rw [←List.drop_drop,h];rfl
 ·have := congrArg List.length h
  simp at this;omega
 ·have : b ∈ l.drop i := by rw [h]; exact List.mem_cons_self
  exact List.mem_of_mem_drop this
noncomputable def chk (n : Int) : List Int → Int → Int
 | [],_=>0
 | m :: r,last=>bif ilt m 0 then 2 else bif nt (ilt m n) then 2 else bif nt (ilt last m) then 7 else chk n r m
noncomputable def checkI (n:Int) (l:List Int):Int:=bif ilt n 1 then 1 else bif ilt 21 n then 1 else bif Nat.blt 6 l.length then 3 else chk n l (-1)
noncomputable def slI (f:Nat) (l:List Int):Value:=Sl.v 1 ⟨l.length,f,iLI l⟩
theorem slv_slI (l:List Nat):slv l = slI 0 (l.map Int.ofNat):=by unfold slv slI;rw [vL_iLI,List.length_map]
theorem map_ofNat_inj {a b:List Nat}:a.map Int.ofNat = b.map Int.ofNat↔a = b:=by
 constructor
 ·intro h
  have:=congrArg (List.map Int.toNat) h
  simpa [List.map_map,Function.comp_def] using this
 ·rintro rfl;rfl
theorem chk_zero {n : Nat} : ∀ {r : List Int} {last : Int}, -1 ≤ last → chk (Int.ofNat n) r last = 0 → ∃ m : List Nat, r = m.map Int.ofNat ∧ m.Pairwise (· < ·) ∧ (∀ x ∈ m, x < n) ∧ ∀ x ∈ m, last < (x : Int)
 | [],_,_,_=>⟨[],rfl,.nil,fun x hx=>by (cases hx),fun x hx=>by (cases hx)⟩
 | x :: r, last, hl, h => by
  have h:(bif ilt x 0 then (2:Int) else bif nt (ilt x (Int.ofNat n)) then 2 else bif nt (ilt last x) then 7 else chk (Int.ofNat n) r x) = 0:=h
  rw [ilt_eq,ilt_eq,ilt_eq] at h
  by_cases h1:x < 0
  ·rw [decide_eq_true h1] at h;cases h
  ·rw [decide_eq_false h1] at h
   by_cases h2:x < Int.ofNat n
   ·rw [decide_eq_true h2] at h
    by_cases h3:last < x
    ·rw [decide_eq_true h3] at h
     obtain ⟨m,e,a1,a2,a3⟩:=chk_zero (r:=r) (last:=x) (by omega) h
     have h2:x < (n:Int):=h2
     refine ⟨x.toNat :: m,by rw [e,List.map_cons];congr 1;show x = ((x.toNat:Nat):Int);omega,List.pairwise_cons.2 ⟨fun y hy=>by have:=a3 y hy;omega,a1⟩,fun y hy=>?_,fun y hy=>?_⟩
     ·rcases List.mem_cons.1 hy with rfl | hy
      ·omega
      ·exact a2 y hy
     ·rcases List.mem_cons.1 hy with rfl | hy
      ·omega
      ·have:=a3 y hy;omega
    ·rw [decide_eq_false h3] at h;cases h
   ·rw [decide_eq_false h2] at h;cases h
theorem chk_ok {n : Nat} : ∀ {m : List Nat} {last : Int}, -1 ≤ last → m.Pairwise (· < ·) → (∀ x ∈ m, x < n) → (∀ x ∈ m, last < (x : Int)) → chk (Int.ofNat n) (m.map Int.ofNat) last = 0
 | [],_,_,_,_,_=>rfl
 | x :: m, last, hl, h1, h2, h3 => by
  obtain ⟨p1,p2⟩:=List.pairwise_cons.1 h1
  have a1:=h2 x List.mem_cons_self
  have a2:=h3 x List.mem_cons_self
  show (bif ilt (x:Int) 0 then (2:Int) else bif nt (ilt (x:Int) (n:Int)) then 2 else bif nt (ilt last (x:Int)) then 7 else chk (Int.ofNat n) (m.map Int.ofNat) (x:Int)) = 0
  rw [ilt_eq,ilt_eq,ilt_eq,decide_eq_false (show ¬ (x:Int) < 0 by omega),decide_eq_true (show (x:Int) < (n:Int) by omega),decide_eq_true a2]
  exact chk_ok (by omega) p2 (fun y hy=>h2 y (List.mem_cons_of_mem _ hy)) fun y hy=>by have:=p1 y hy;omega
theorem checkI_ok {n:Nat} {m:List Nat} (hn0:0 < n) (hn:n≤21) (hl:m.length≤6) (h1:m.Pairwise (· < ·)) (h2:∀ x ∈ m,x < n):checkI (Int.ofNat n) (m.map Int.ofNat) = 0:=by
 show (bif ilt (Int.ofNat n) (Int.ofNat 1) then (1:Int) else bif ilt (Int.ofNat 21) (Int.ofNat n) then 1 else bif Nat.blt 6 (m.map Int.ofNat).length then 3 else chk (Int.ofNat n) (m.map Int.ofNat) (-1)) = 0
 rw [ilt_nat,ilt_nat,blt_eq,blt_eq,blt_eq,List.length_map,decide_eq_false (by omega),decide_eq_false (by omega),decide_eq_false (by omega)]
 exact chk_ok (last:=-1) (Int.le_refl _) h1 h2 fun x _=>by omega
theorem checkI_inv {n:Int} {l:List Int} (h:checkI n l = 0):∃ (k:Nat) (m:List Nat),n = Int.ofNat k∧l = m.map Int.ofNat∧0 < k∧k≤21∧m.length≤6∧m.Pairwise (· < ·)∧∀ x ∈ m,x < k:=by
 unfold checkI at h
 rw [ilt_eq,ilt_eq,blt_eq] at h
 by_cases h1:n < 1
 ·rw [decide_eq_true h1] at h;cases h
 ·rw [decide_eq_false h1] at h
  by_cases h2:21 < n
  ·rw [decide_eq_true h2] at h;cases h
  ·rw [decide_eq_false h2] at h
   by_cases h3:6 < l.length
   ·rw [decide_eq_true h3] at h;cases h
   ·rw [decide_eq_false h3] at h
    have e:n = Int.ofNat n.toNat:=by show n = ((n.toNat:Nat):Int);omega
    rw [e] at h
    obtain ⟨m,rfl,a1,a2,_⟩:=chk_zero (last:=-1) (Int.le_refl _) (show chk (Int.ofNat n.toNat) l (-1) = 0 from h)
    exact ⟨n.toNat,m,e,rfl,by omega,by omega,by simpa using h3,a1,a2⟩
def bitsOf (l:List Nat):Nat:=setOf (fun p=>p) l 0
theorem bitsOf_bit (l:List Nat) (q:Nat):(bitsOf l).testBit q = decide (q ∈ l):=by
 unfold bitsOf
 rw [setOf_bit,Nat.zero_testBit,Bool.false_or,Bool.eq_iff_iff]
 simp only [List.any_eq_true,decide_eq_true_eq]
 exact ⟨fun ⟨p,hp,e⟩=>e ▸ hp,fun h=>⟨q,h,rfl⟩⟩
theorem bitsOf_lt {n:Nat} {l:List Nat} (h:∀ x ∈ l,x < n):bitsOf l < 2 ^ n:=setOf_lt _ (Nat.two_pow_pos n) h
theorem marks_bitsOf {n:Nat} (hn:n≤31) {l:List Nat} (h1:l.Pairwise (· < ·)) (h2:∀ x ∈ l,x < n):marksN n (bitsOf l) = l:=by
 have h:=lt32 hn (bitsOf_lt h2)
 refine sorted_ext (marks_sorted h) h1 fun x=>?_
 rw [mem_marks h,bitsOf_bit,decide_eq_true_eq]
 exact ⟨fun h=>h.2,fun h=>⟨h2 x h,h⟩⟩
noncomputable def tup2 (a b:Value):Value:=.tuple ⟨[a,b]⟩
structure Good (n:Nat) (l:List Nat):Prop where
 pos:0 < n
 le:n≤21
 few:l.length≤6
 up:l.Pairwise (· < ·)
 lt:∀ x ∈ l,x < n
noncomputable def seaF (n f:Nat) (l:List Nat):Value:=.agg ⟨[IV (Int.ofNat n),Sl.v 1 ⟨l.length,f,vL l⟩]⟩
theorem dists_len (n:Nat) (l:List Nat):(dists n l).length = n - 1:=by unfold dists;simp
theorem dists_get {n:Nat} {l:List Nat} {i:Nat} (hi:i < n - 1):(dists n l)[i]? = some (cntD n l (i + 1)):=by unfold dists;simp [hi]
theorem Good.lt32 {n:Nat} {l:List Nat} (h:Good n l):bitsOf l < 4294967296:=Go.RgP.lt32 (n:=n) (by have:=h.le;omega) (bitsOf_lt h.lt)
theorem Good.marks {n:Nat} {l:List Nat} (h:Good n l):marksN n (bitsOf l) = l:=marks_bitsOf (by have:=h.le;omega) h.up h.lt
theorem pu_dists (k:Nat) {n:Nat} {l:List Nat} (h:Good n l):puN (k + 4) 74 [tv n (bitsOf l)] = some (slv (dists n l)):=by
 have h2:=h.le
 have:=pu_dist k (n:=n) (s:=bitsOf l) h.pos (by omega)
 rw [distN_eq h.lt32,h.marks] at this
 rw [this];unfold slv;rw [dists_len]
theorem pu_clashes (k:Nat) {n:Nat} {l:List Nat} (h:Good n l):puN (k + 4) 76 [tv n (bitsOf l)] = some (IV (Int.ofNat (firstD n l))):=by
 have h2:=h.le
 have:=pu_clash k (n:=n) (s:=bitsOf l) h.pos (by omega)
 rw [clashN_eq h.lt32,h.marks] at this
 exact this
end Go.RgP
set_option maxRecDepth 100000
set_option maxHeartbeats 4000000
namespace Go.RgP
open Go Go.Sp Go.RgDM
theorem p64 (k:Nat) (args:List Value):puN (k + 1) 64 args = m64 (puN k) L args:=by kernel_rfl
theorem pu_rest (k:Nat) {n:Nat} (hn0:0 < n) (hn:n≤60) (x:Int):puN (k + 1) 64 [IV x,IV (Int.ofNat n)] = some (IV (Int.ofNat (plc n x))):=by
 rw [p64]
 show m64_ (puN k) L x (Int.ofNat n) = _
 unfold m64_ m64_0
 have hp:(0:Int) < (n:Int):=by omega
 have e:ieq (Int.ofNat n) 0 = false:=by rw [show (0:Int) = Int.ofNat 0 from rfl,ieq_nat];exact beq_ne (by omega)
 have g1:=Int.tmod_lt_of_pos x hp
 have g2:-(n:Int) < Int.tmod x n:=by
  have:=Int.lt_tmod_of_pos x hp;omega
 have hpl:=plc_cast hn0 x
 have h3:Int.tmod x (n:Int) + (n:Int) = x + (n:Int) * (1 - Int.tdiv x n):=by
  have:=Int.mul_tdiv_add_tmod x (n:Int)
  rw [Int.mul_sub];omega
 rw [e,show nt false = true from rfl,bb_true,ilt_eq]
 show bb (decide (Int.tmod x (n:Int) < 0)) (some (IV (wrapF .i64 (Int.tmod x (n:Int) + (n:Int))))) (some (IV (Int.tmod x (n:Int)))) = some (IV ((plc n x:Nat):Int))
 by_cases h:Int.tmod x (n:Int) < 0
 ·rw [decide_eq_true h, bb_true, wrapI _ (by omega) (by omega), hpl]
  have:(Int.tmod x (n:Int) + (n:Int)) % (n:Int) = x % (n:Int):=by rw [h3,Int.add_mul_emod_self_left]
  rw [←this,Int.emod_eq_of_lt (by omega) (by omega)]
 ·rw [decide_eq_false h, bb_false, hpl]
  have h4:Int.tmod x (n:Int) = x + (n:Int) * (- Int.tdiv x n):=by
   have:=Int.mul_tdiv_add_tmod x (n:Int)
   rw [Int.mul_neg];omega
  have:(Int.tmod x (n:Int)) % (n:Int) = x % (n:Int):=by rw [h4,Int.add_mul_emod_self_left]
  rw [←this,Int.emod_eq_of_lt (by omega) (by omega)]
theorem marked_loop (pu : PureF) (L : Nat) {l : List Nat} (hl : l.length < 900000) (f p : Nat) (z : Int) : ∀ (r : List Nat) (w i : Nat), l.drop i = r → r.length < w → i ≤ l.length →
 l63_1 pu L w (Int.ofNat p) (Int.ofNat i) z ⟨l.length,f,vL l⟩ = some (.bool (decide (p ∈ r)))
 | _,0,_,_,h,_=>by omega
 | [], w + 1, i, hd, _, hi => by
  show b63_1 pu L (l63_1 pu L w) (Int.ofNat p) (Int.ofNat i) z ⟨l.length,f,vL l⟩ = _
  have h1:l.length≤i:=List.drop_eq_nil_iff.1 hd
  unfold b63_1
  show bb (ilt (Int.ofNat i) (Int.ofNat l.length)) _ _ = _
  rw [ilt_nat,show Nat.blt i l.length = false from by rw [blt_eq];simp;omega];rfl
 | x :: r, w + 1, i, hd, hw, hi => by
  show b63_1 pu L (l63_1 pu L w) (Int.ofNat p) (Int.ofNat i) z ⟨l.length,f,vL l⟩ = _
  obtain ⟨hd2,hi2,_⟩:=drop_next hd
  have hr:(x :: r).length = r.length + 1:=rfl
  have hlt:Nat.blt i l.length = true:=by rw [blt_eq];simp;omega
  have ih:=marked_loop pu L hl f p z r w (i + 1) hd2 (by omega) (by omega)
  unfold b63_1
  show bb (ilt (Int.ofNat i) (Int.ofNat l.length)) (oo (toN (Int.ofNat i)) none _) _ = _
  rw [ilt_nat,hlt,bb_true,show toN (Int.ofNat i) = some i from rfl,oo_some]
  show bb (an (Nat.blt i l.length) true) (oo (nthL (vL l) (i * 1)) none _) none = _
  rw [hlt,show an true true = true from rfl,bb_true,vL_get hd,oo_some,show ∀ z,toI .i64 (IV z) = some z from fun _=>rfl,oo_some,wrapS i (by omega),ih,ieq_nat,beq_dec]
  by_cases h:x = p
  ·subst h;simp
  ·have : ¬ p = x := fun e => h e.symm
   simp [h,this]
theorem p63 (k:Nat) (args:List Value):puN (k + 1) 63 args = m63 (puN k) L args:=by kernel_rfl
theorem pu_marked (k n f p:Nat) {l:List Nat} (hl:l.length < 900000):puN (k + 1) 63 [seaF n f l,IV (Int.ofNat p)] = some (.bool (decide (p ∈ l))):=by
 rw [p63]
 exact marked_loop (puN k) L hl f p (Int.ofNat n) l L 0 List.drop_zero (by show _ < 1000000;omega) (by omega)
theorem p73 (k:Nat) (args:List Value):puN (k + 1) 73 args = m73 (puN k) L args:=by kernel_rfl
theorem pu_is (k:Nat) (x a b:Int):puN (k + 1) 73 [IV x,IV a,IV b] = some (.bool (decide (a≤x∧x≤b))):=by
 rw [p73]
 show bb (nt (ilt x a)) (some (Value.bool (nt (ilt b x)))) (some (Value.bool false)) = _
 rw [ilt_eq,ilt_eq]
 by_cases h1:x < a
 ·rw [decide_eq_true h1,decide_eq_false (show ¬ (a≤x∧x≤b) by omega)];rfl
 ·rw [decide_eq_false h1]
  by_cases h2:b < x
  ·rw [decide_eq_true h2,decide_eq_false (show ¬ (a≤x∧x≤b) by omega)];rfl
  ·rw [decide_eq_false h2,decide_eq_true (show a≤x∧x≤b by omega)];rfl
theorem check26_loop (k : Nat) {n : Int} (hn : 1 ≤ n) (hn2 : n ≤ 21) {l : List Int} (hl : l.length < 900000) (f : Nat) : ∀ (r : List Int) (w i : Nat) (last : Int), l.drop i = r → r.length < w → i ≤ l.length → (i = 0 → last = -1) → (0 < i → l[i - 1]? = some last) →
 l26_1 (puN (k + 1)) L w (Int.ofNat i) n ⟨l.length,f,iLI l⟩ = some (IV (chk n r last))
 | _,0,_,_,_,h,_,_,_=>by omega
 | [], w + 1, i, last, hd, _, hi, _, _ => by
  show b26_1 (puN (k + 1)) L (l26_1 (puN (k + 1)) L w) (Int.ofNat i) n ⟨l.length,f,iLI l⟩ = _
  have h1:l.length≤i:=List.drop_eq_nil_iff.1 hd
  unfold b26_1
  show bb (ilt (Int.ofNat i) (Int.ofNat l.length)) _ _ = _
  rw [ilt_nat,show Nat.blt i l.length = false from by rw [blt_eq];simp;omega];rfl
 | x :: r, w + 1, i, last, hd, hw, hi, hi0, hip => by
  show b26_1 (puN (k + 1)) L (l26_1 (puN (k + 1)) L w) (Int.ofNat i) n ⟨l.length,f,iLI l⟩ = _
  obtain ⟨hd2,hi2,_⟩:=dropI_next hd
  have hr:(x :: r).length = r.length + 1:=rfl
  have hlt:Nat.blt i l.length = true:=by rw [blt_eq];simp;omega
  have hx:l[i]? = some x:=by
   have:=congrArg List.head? hd
   rw [List.head?_drop] at this;exact this
  have ih:=check26_loop k hn hn2 hl f r w (i + 1) x hd2 (by omega) (by omega) (by omega) (fun _=>by simpa using hx)
  have e1:wrapF .i64 (Int.sub n (1:Int)) = n - 1:=wrapI _ (by show _≤n - 1;omega) (by show n - 1≤_;omega)
  have hchk:chk n (x :: r) last = (bif ilt x 0 then 2 else bif nt (ilt x n) then 2 else bif nt (ilt last x) then 7 else chk n r x):=rfl
  rw [hchk]
  unfold b26_1
  show bb (ilt (Int.ofNat i) (Int.ofNat l.length)) (oo (toN (Int.ofNat i)) none _) _ = _
  rw [ilt_nat,hlt,bb_true,show toN (Int.ofNat i) = some i from rfl,oo_some]
  show bb (an (Nat.blt i l.length) true) (oo (nthL (iLI l) (i * 1)) none _) none = _
  rw [hlt,show an true true = true from rfl,bb_true,iLI_get hd,oo_some,show ∀ z,toI .i64 (IV z) = some z from fun _=>rfl,oo_some,e1,pu_is,oo_some]
  show bb (nt (decide (0≤x∧x≤n - 1))) (some (IV 2)) (bb (ilt (0:Int) (Int.ofNat i)) (bb true (oo (some (IV x)) none fun v=>oo (toI .i64 v) none fun x3347=>oo (toN (wrapF .i64 (Int.sub (Int.ofNat i) (1:Int)))) none fun k3349=>bb (an (Nat.blt k3349 l.length) true) (oo (nthL (iLI l) (k3349 * 1)) none fun v3352=>oo (toI .i64 v3352) none fun x3354=>m26_2 (puN (k + 1)) L (l26_1 (puN (k + 1)) L w) (Int.ofNat i) (nt (ilt x3354 x3347)) n ⟨l.length,f,iLI l⟩) none) none) (m26_2 (puN (k + 1)) L (l26_1 (puN (k + 1)) L w) (Int.ofNat i) false n ⟨l.length,f,iLI l⟩)) = _
  have hm2:∀ b,m26_2 (puN (k + 1)) L (l26_1 (puN (k + 1)) L w) (Int.ofNat i) b n ⟨l.length,f,iLI l⟩ = some (IV (bif b then 7 else chk n r x)):=fun b=>by
   unfold m26_2
   rw [wrapS i (by omega),ih]
   cases b <;> rfl
  rw [ilt_eq x 0,ilt_eq x n,hm2]
  by_cases h1:x < 0
  ·rw [decide_eq_false (show ¬ (0≤x∧x≤n - 1) by omega),decide_eq_true h1];rfl
  ·rw [decide_eq_false h1]
   by_cases h2:x < n
   ·rw [decide_eq_true h2, decide_eq_true (show 0 ≤ x ∧ x ≤ n - 1 by omega)]
    show bb (ilt (0:Int) (Int.ofNat i)) _ (some (IV (chk n r x))) = some (IV (bif nt (ilt last x) then 7 else chk n r x))
    rw [show (0:Int) = Int.ofNat 0 from rfl,ilt_nat,blt_eq]
    by_cases h3:0 < i
    ·have hprev : nthL (iLI l) ((i - 1) * 1) = some (IV last) := by
      rw [nthL_eq,Nat.mul_one];unfold iLI
      rw [List.getElem?_map,hip h3];rfl
     have e2:wrapF .i64 (Int.sub (Int.ofNat i) (1:Int)) = Int.ofNat (i - 1):=by
      show wrapF .i64 ((i:Int) - 1) = ((i - 1:Nat):Int)
      rw [wrapI _ (by omega) (by omega)];omega
     rw [decide_eq_true h3,bb_true,bb_true,oo_some,show ∀ z,toI .i64 (IV z) = some z from fun _=>rfl,oo_some,e2,show ∀ j,toN (Int.ofNat j) = some j from fun _=>rfl,oo_some,show Nat.blt (i - 1) l.length = true from by rw [blt_eq];simp;omega,show an true true = true from rfl,bb_true,hprev,oo_some,show ∀ z,toI .i64 (IV z) = some z from fun _=>rfl,oo_some,hm2]
    ·have : last = -1 := hi0 (by omega)
     rw [decide_eq_false h3,bb_false,ilt_eq last x,decide_eq_true (show last < x by omega)];rfl
   ·rw [decide_eq_false h2,decide_eq_false (show ¬ (0≤x∧x≤n - 1) by omega)];rfl
theorem p26 (k:Nat) (args:List Value):puN (k + 1) 26 args = m26 (puN k) L args:=by kernel_rfl
theorem pu_check26 (k f:Nat) (n:Int) {l:List Int} (hl:l.length < 900000):puN (k + 2) 26 [.agg ⟨[IV n,slI f l]⟩] = some (IV (checkI n l)):=by
 rw [p26]
 show oo (puN (k + 1) 73 [IV n,IV 1,IV 21]) none _ = _
 rw [pu_is,oo_some]
 show bb (nt (decide (1≤n∧n≤21))) (some (IV 1)) (bb (ilt (6:Int) (Int.ofNat l.length)) (some (IV 3)) (l26_1 (puN (k + 1)) L L (0:Int) n ⟨l.length,f,iLI l⟩)) = _
 unfold checkI
 rw [ilt_eq n 1,ilt_eq 21 n,show ilt (6:Int) (Int.ofNat l.length) = Nat.blt 6 l.length from ilt_nat 6 _]
 by_cases h1:n < 1
 ·rw [decide_eq_true h1,decide_eq_false (show ¬ (1≤n∧n≤21) by omega)];rfl
 ·rw [decide_eq_false h1]
  by_cases h2:21 < n
  ·rw [decide_eq_true h2,decide_eq_false (show ¬ (1≤n∧n≤21) by omega)];rfl
  ·rw [decide_eq_false h2, decide_eq_true (show 1 ≤ n ∧ n ≤ 21 by omega)]
   have h:=check26_loop k (n:=n) (by omega) (by omega) hl f l L 0 (-1) List.drop_zero (by show _ < 1000000;omega) (by omega) (fun _=>rfl) (fun h=>by omega)
   have h:l26_1 (puN (k + 1)) L L (0:Int) n ⟨l.length,f,iLI l⟩ = some (IV (chk n l (-1))):=h
   rw [h]
   cases Nat.blt 6 l.length <;> rfl
theorem pu_check26_ok (k f:Nat) {n:Nat} {l:List Nat} (h:Good n l):puN (k + 2) 26 [seaF n f l] = some (IV 0):=by
 have hc:=pu_check26 k f (Int.ofNat n) (l:=l.map Int.ofNat) (by have:=h.few;simp;omega)
 rw [checkI_ok h.pos h.le h.few h.up h.lt] at hc
 have e:seaF n f l = .agg ⟨[IV (Int.ofNat n),slI f (l.map Int.ofNat)]⟩:=by unfold seaF slI;rw [vL_iLI,List.length_map]
 rw [e];exact hc
end Go.RgP
set_option maxRecDepth 100000
set_option maxHeartbeats 4000000
namespace Go.RgP
open Go Go.Sp Go.RgDM
theorem check_loop (pu : PureF) (L : Nat) {n : Int} {l : List Int} (hl : l.length < 900000) (f f' : Nat) (l' : List Value) (m' : Nat) : ∀ (r : List Int) (w i : Nat) (last : Int), l.drop i = r → r.length < w → i ≤ l.length →
 l25_2 pu L w last ⟨l.length,f,iLI l⟩ (Int.ofNat l.length) (Int.ofNat i) n ⟨m',f',l'⟩ = some (IV (chk n r last))
 | _,0,_,_,_,h,_=>by omega
 | [], w + 1, i, last, hd, _, hi => by
  show b25_2 pu L (l25_2 pu L w) last ⟨l.length,f,iLI l⟩ (Int.ofNat l.length) (Int.ofNat i) n ⟨m',f',l'⟩ = _
  have h1:l.length≤i:=List.drop_eq_nil_iff.1 hd
  unfold b25_2
  rw [ilt_nat,show Nat.blt i l.length = false from by rw [blt_eq];simp;omega];rfl
 | x :: r, w + 1, i, last, hd, hw, hi => by
  show b25_2 pu L (l25_2 pu L w) last ⟨l.length,f,iLI l⟩ (Int.ofNat l.length) (Int.ofNat i) n ⟨m',f',l'⟩ = _
  obtain ⟨hd2,hi2,_⟩:=dropI_next hd
  have hr:(x :: r).length = r.length + 1:=rfl
  have hlt:Nat.blt i l.length = true:=by rw [blt_eq];simp;omega
  have ih:=check_loop pu L (n:=n) hl f f' l' m' r w (i + 1) x hd2 (by omega) (by omega)
  unfold b25_2
  rw [ilt_nat,hlt,bb_true,show toN (Int.ofNat i) = some i from rfl,oo_some]
  show bb (an (Nat.blt i l.length) true) (oo (nthL (iLI l) (i * 1)) none _) none = _
  rw [hlt,show an true true = true from rfl,bb_true,iLI_get hd,oo_some,show ∀ z,toI .i64 (IV z) = some z from fun _=>rfl,oo_some]
  show bb (ilt x 0) (bb true (some (IV 2)) _) (bb (nt (ilt x n)) (some (IV 2)) (bb (nt (ilt last x)) (some (IV 7)) (l25_2 pu L w x ⟨l.length,f,iLI l⟩ (Int.ofNat l.length) (wrapF .i64 (Int.add (Int.ofNat i) (1:Int))) n ⟨m',f',l'⟩))) = some (IV (bif ilt x 0 then 2 else bif nt (ilt x n) then 2 else bif nt (ilt last x) then 7 else chk n r x))
  rw [wrapS i (by omega),ih]
  cases ilt x 0 <;> cases nt (ilt x n) <;> cases nt (ilt last x) <;> rfl
theorem p25 (k:Nat) (args:List Value):puN (k + 1) 25 args = m25 (puN k) L args:=by kernel_rfl
theorem pu_check (k f:Nat) (n:Int) {l:List Int} (hl:l.length < 900000):puN (k + 1) 25 [.agg ⟨[IV n,slI f l]⟩] = some (IV (checkI n l)):=by
 rw [p25]
 show bb (ilt n 1) (m25_0 (puN k) L true n ⟨l.length,f,iLI l⟩) (m25_0 (puN k) L (ilt 21 n) n ⟨l.length,f,iLI l⟩) = _
 have h:=check_loop (puN k) L (n:=n) hl f f (iLI l) l.length l L 0 (-1) List.drop_zero (by show _ < 1000000;omega) (by omega)
 have h0:∀ b,m25_0 (puN k) L b n ⟨l.length,f,iLI l⟩ = some (IV (bif b then 1 else bif Nat.blt 6 l.length then 3 else chk n l (-1))):=fun b=>by
  show bb b (some (IV 1)) (bb (ilt (6:Int) (Int.ofNat l.length)) (some (IV 3)) (l25_2 (puN k) L L (-1:Int) ⟨l.length,f,iLI l⟩ (Int.ofNat l.length) (0:Int) n ⟨l.length,f,iLI l⟩)) = _
  have h:l25_2 (puN k) L L (-1:Int) ⟨l.length,f,iLI l⟩ (Int.ofNat l.length) (0:Int) n ⟨l.length,f,iLI l⟩ = some (IV (chk n l (-1))):=h
  rw [h,show (6:Int) = Int.ofNat 6 from rfl,ilt_nat]
  cases b <;> cases Nat.blt 6 l.length <;> rfl
 rw [h0,h0]
 unfold checkI
 cases ilt n 1 <;> cases ilt 21 n <;> rfl
theorem made_loop (pu : PureF) (L n : Nat) {l : List Nat} (hl : ∀ x ∈ l, x < 31) (hl2 : l.length < 900000) (f : Nat) (a b : Int) : ∀ (r : List Nat) (w i z : Nat), l.drop i = r → r.length < w → i ≤ l.length → z < 2 ^ 31 →
 l96_1 pu L w ⟨l.length,f,vL l⟩ (Int.ofNat l.length) (Int.ofNat i) a b (Int.ofNat n) (Int.ofNat z) = some (tv n (setOf (fun p=>p) r z))
 | _,0,_,_,_,h,_,_=>by omega
 | [], w + 1, i, z, hd, _, hi, _ => by
  show b96_1 pu L (l96_1 pu L w) ⟨l.length,f,vL l⟩ (Int.ofNat l.length) (Int.ofNat i) a b (Int.ofNat n) (Int.ofNat z) = _
  have:l.length≤i:=List.drop_eq_nil_iff.1 hd
  unfold b96_1
  rw [ilt_nat,show Nat.blt i l.length = false from by rw [blt_eq];simp;omega];rfl
 | p :: r, w + 1, i, z, hd, hw, hi, hz => by
  show b96_1 pu L (l96_1 pu L w) ⟨l.length,f,vL l⟩ (Int.ofNat l.length) (Int.ofNat i) a b (Int.ofNat n) (Int.ofNat z) = _
  obtain ⟨hd2,hi2,hb'⟩:=drop_next hd
  have hp:=hl p hb'
  have hr:(p :: r).length = r.length + 1:=rfl
  have hlt:Nat.blt i l.length = true:=by rw [blt_eq];simp;omega
  have hk:2 ^ p < 2 ^ 31:=Nat.pow_lt_pow_right (by omega) hp
  have hz2:z ||| 2 ^ p < 2 ^ 31:=Nat.or_lt_two_pow hz hk
  have ih:=made_loop pu L n hl hl2 f a b r w (i + 1) _ hd2 (by omega) (by omega) hz2
  unfold b96_1
  rw [ilt_nat,hlt,bb_true,show toN (Int.ofNat i) = some i from rfl,oo_some]
  show bb (an (Nat.blt i l.length) true) (oo (nthL (vL l) (i * 1)) none _) none = _
  rw [hlt,show an true true = true from rfl,bb_true,vL_get hd,oo_some,show toI .i64 (IV (Int.ofNat p)) = some (Int.ofNat p) from rfl,oo_some,show toN (Int.ofNat p) = some p from rfl,oo_some,shl32 (by omega),aor32 (by omega) (by omega),wrapS i (by omega),ih];rfl
theorem p96 (k:Nat) (args:List Value):puN (k + 1) 96 args = m96 (puN k) L args:=by kernel_rfl
theorem pu_made (k n f:Nat) {l:List Nat} (hl:∀ x ∈ l,x < 31) (hl2:l.length < 900000):puN (k + 1) 96 [IV (Int.ofNat n),Sl.v 1 ⟨l.length,f,vL l⟩] = some (tv n (bitsOf l)):=by
 rw [p96]
 exact made_loop (puN k) L n hl hl2 f 0 0 l L 0 0 List.drop_zero (by show _ < 1000000;omega) (by omega) (by omega)
theorem p61 (k:Nat) (args:List Value):puN (k + 1) 61 args = m61 (puN k) L args:=by kernel_rfl
theorem pu_opened (k f:Nat) {n:Nat} {l:List Nat} (hn0:0 < n) (hn:n≤21) (hl:l.length≤6) (h1:l.Pairwise (· < ·)) (h2:∀ x ∈ l,x < n):puN (k + 2) 61 [.agg ⟨[IV (Int.ofNat n),Sl.v 1 ⟨l.length,f,vL l⟩]⟩] = some (tup2 (tv n (bitsOf l)) (IV 0)):=by
 rw [p61]
 show oo (puN (k + 1) 25 [.agg ⟨[IV (Int.ofNat n),Sl.v 1 ⟨l.length,f,vL l⟩]⟩]) none _ = _
 have hc:=pu_check k f (Int.ofNat n) (l:=l.map Int.ofNat) (by simp;omega)
 rw [checkI_ok hn0 hn hl h1 h2] at hc
 rw [show Sl.v 1 ⟨l.length,f,vL l⟩ = slI f (l.map Int.ofNat) from by unfold slI;rw [vL_iLI,List.length_map],hc,oo_some]
 show oo (puN (k + 1) 96 [IV (Int.ofNat n),slI f (l.map Int.ofNat)]) none _ = _
 have hm:=pu_made k n f (l:=l) (fun x hx=>by have:=h2 x hx;omega) (by omega)
 rw [show slI f (l.map Int.ofNat) = Sl.v 1 ⟨l.length,f,vL l⟩ from by unfold slI;rw [vL_iLI,List.length_map],hm];rfl
theorem pu_opened_bad (k f:Nat) {n:Int} {l:List Int} (hl:l.length < 900000) (h:checkI n l ≠ 0):puN (k + 2) 61 [.agg ⟨[IV n,slI f l]⟩] = some (tup2 (tv 0 0) (IV (checkI n l))):=by
 rw [p61]
 show oo (puN (k + 1) 25 [.agg ⟨[IV n,slI f l]⟩]) none _ = _
 rw [pu_check k f n hl,oo_some]
 have:ieq (checkI n l) 0 = false:=by rw [ieq_eq];simpa using h
 show bb (nt (ieq (checkI n l) 0)) _ _ = _
 rw [this];rfl
end Go.RgP
set_option maxRecDepth 100000
set_option maxHeartbeats 4000000
namespace Go.RgP
open Go Go.Sp Go.RgDM
theorem on_any (pu:PureF) (L n s:Nat) (x:Int) (hn:0 < n) (hn2:n < 1000):m62 pu L [tv n s,IV x] = some (IV (Int.ofNat (plc n x))):=by
 show m62_ pu L (Int.ofNat n) (Int.ofNat s) x = _
 unfold m62_
 have e:ieq (Int.ofNat n) 0 = false:=by rw [show (0:Int) = Int.ofNat 0 from rfl,ieq_nat];exact beq_ne (by omega)
 rw [e]
 show some (IV (Int.tmod (wrapF .i64 (Int.tmod x (n:Int) + (n:Int))) (n:Int))) = some (IV ((plc n x:Nat):Int))
 have hp:(0:Int) < (n:Int):=by omega
 have g1:=Int.tmod_lt_of_pos x hp
 have g2:-(n:Int) < Int.tmod x n:=by
  have:=Int.lt_tmod_of_pos x hp;omega
 rw [wrapI _ (by omega) (by omega),Int.tmod_eq_emod_of_nonneg (by omega),plc_cast hn]
 have h3:Int.tmod x (n:Int) + (n:Int) = x + (n:Int) * (1 - Int.tdiv x n):=by
  have:=Int.mul_tdiv_add_tmod x (n:Int)
  rw [Int.mul_sub];omega
 rw [h3,Int.add_mul_emod_self_left]
theorem pu_on2 (k:Nat) {n s:Nat} {x:Int} (hn:0 < n) (hn2:n≤60):puN (k + 1) 62 [tv n s,IV x] = some (IV (Int.ofNat (plc n x))):=by
 rw [p62];exact on_any (puN k) L n s x hn (by omega)
theorem p65 (k:Nat) (args:List Value):puN (k + 1) 65 args = m65 (puN k) L args:=by kernel_rfl
theorem pu_turned (k:Nat) {n s b:Nat} (hn:n≤21) (hs:s < 2 ^ n) (hb:b < n):puN (k + 1) 65 [tv n s,IV (Int.ofNat b)] = some (tv n (turnN n s b)):=by
 rw [p65]
 show m65_ (puN k) L (Int.ofNat n) (Int.ofNat s) (Int.ofNat b) = _
 unfold m65_
 have hs32:=lt32 (by omega) hs
 have e1:wrapF .i64 (Int.sub (Int.ofNat n) (Int.ofNat b)) = Int.ofNat (n - b):=by
  show wrapF .i64 ((n:Int) - (b:Int)) = ((n - b:Nat):Int)
  rw [wrapI _ (by omega) (by omega)];omega
 have e2:wrapF .u32 (Int.sub (shlI .u32 (1:Int) n) (1:Int)) = Int.ofNat (2 ^ n - 1):=by
  have h1:2 ^ n < 4294967296:=Nat.lt_of_le_of_lt (Nat.pow_le_pow_right (by omega) hn) (by decide)
  have h2:=Nat.two_pow_pos n
  rw [shl32 (by omega),show Int.sub (Int.ofNat (2 ^ n)) 1 = Int.ofNat (2 ^ n - 1) from by show ((2 ^ n:Nat):Int) - 1 = ((2 ^ n - 1:Nat):Int);omega]
  exact wrap32 (by omega)
 have e3:shlI .u32 (Int.ofNat s) b = Int.ofNat ((s * 2 ^ b) % 4294967296):=by
  show wrapF .u32 (Int.ofNat (s * 2 ^ (min b 32))) = _
  rw [Nat.min_eq_left (by omega)];rfl
 have h4:(s * 2 ^ b) % 4294967296 < 4294967296:=Nat.mod_lt _ (by omega)
 have h5:s / 2 ^ (n - b) < 4294967296:=Nat.lt_of_le_of_lt (Nat.div_le_self _ _) hs32
 have h6:(s * 2 ^ b) % 4294967296 ||| s / 2 ^ (n - b) < 4294967296:=Nat.or_lt_two_pow (n:=32) h4 h5
 have h7:2 ^ n - 1 < 4294967296:=by
  have h1:2 ^ n < 4294967296:=Nat.lt_of_le_of_lt (Nat.pow_le_pow_right (by omega) hn) (by decide)
  omega
 show oo (toN (wrapF .i64 (Int.sub (Int.ofNat n) (Int.ofNat b)))) none (fun k3348=>some (Value.agg ⟨[(.int .i64 (Int.ofNat n)),(.int .u32 (aand .u32 (aor .u32 (shlI .u32 (Int.ofNat s) b) (shrI .u32 (Int.ofNat s) k3348)) (wrapF .u32 (Int.sub (shlI .u32 (1:Int) n) (1:Int)))))]⟩)) = _
 rw [e1,show ∀ j,toN (Int.ofNat j) = some j from fun _=>rfl,oo_some,e2,e3,shr32 hs32,aor32 h4 h5,aand32 h6 h7];rfl
end Go.RgP
set_option maxRecDepth 100000
set_option maxHeartbeats 4000000
namespace Go.RgP
open Go Go.Sp Go.RgDM
def comN (n s:Nat) (ts:List Int) (z:Nat):Nat:=ts.foldl (fun z t=>z &&& turnN n s (plc n t)) z
theorem comN_lt {n s : Nat} : ∀ {ts : List Int} {z : Nat}, z < 2 ^ n → comN n s ts z < 2 ^ n
 | [],_,h=>h
 | t :: ts, z, h => by
  show comN n s ts (z &&& turnN n s (plc n t)) < 2 ^ n
  exact comN_lt (Nat.lt_of_le_of_lt Nat.and_le_left h)
theorem common2_loop (k : Nat) {n s : Nat} (hn0 : 0 < n) (hn : n ≤ 21) (hs : s < 2 ^ n) {ts : List Int} (ht : ts.length < 900000) (f : Nat) : ∀ (r : List Int) (w i z : Nat), ts.drop i = r → r.length < w → i ≤ ts.length → z < 2 ^ n →
 l33_1 (puN (k + 2)) L w ⟨ts.length,f,iLI ts⟩ (Int.ofNat ts.length) (Int.ofNat i) (Int.ofNat n) (Int.ofNat s) (Int.ofNat n) (Int.ofNat z) = some (tup2 (slv (marksN n (comN n s r z))) (IV 0))
 | _,0,_,_,_,h,_,_=>by omega
 | [], w + 1, i, z, hd, _, hi, hz => by
  show b33_1 (puN (k + 2)) L (l33_1 (puN (k + 2)) L w) ⟨ts.length,f,iLI ts⟩ (Int.ofNat ts.length) (Int.ofNat i) (Int.ofNat n) (Int.ofNat s) (Int.ofNat n) (Int.ofNat z) = _
  have:ts.length≤i:=List.drop_eq_nil_iff.1 hd
  unfold b33_1
  rw [ilt_nat,show Nat.blt i ts.length = false from by rw [blt_eq];simp;omega]
  show oo (puN (k + 2) 80 [tv n z]) none _ = _
  rw [pu_marks k (by omega),oo_some];rfl
 | t :: r, w + 1, i, z, hd, hw, hi, hz => by
  show b33_1 (puN (k + 2)) L (l33_1 (puN (k + 2)) L w) ⟨ts.length,f,iLI ts⟩ (Int.ofNat ts.length) (Int.ofNat i) (Int.ofNat n) (Int.ofNat s) (Int.ofNat n) (Int.ofNat z) = _
  obtain ⟨hd2,hi2,_⟩:=dropI_next hd
  have hr:(t :: r).length = r.length + 1:=rfl
  have hlt:Nat.blt i ts.length = true:=by rw [blt_eq];simp;omega
  have hz2:z &&& turnN n s (plc n t) < 2 ^ n:=Nat.lt_of_le_of_lt Nat.and_le_left hz
  have ih:=common2_loop k hn0 hn hs ht f r w (i + 1) _ hd2 (by omega) (by omega) hz2
  unfold b33_1
  rw [ilt_nat,hlt,bb_true,show toN (Int.ofNat i) = some i from rfl,oo_some]
  show bb (an (Nat.blt i ts.length) true) (oo (nthL (iLI ts) (i * 1)) none _) none = _
  rw [hlt,show an true true = true from rfl,bb_true,iLI_get hd,oo_some,show ∀ z,toI .i64 (IV z) = some z from fun _=>rfl,oo_some]
  show oo (puN (k + 2) 62 [tv n s,IV t]) none _ = _
  rw [pu_on2 (k + 1) hn0 (by omega),oo_some]
  show oo (puN (k + 2) 65 [tv n s,IV (Int.ofNat (plc n t))]) none _ = _
  rw [pu_turned (k + 1) hn hs (plc_lt hn0 t),oo_some]
  show l33_1 (puN (k + 2)) L w ⟨ts.length,f,iLI ts⟩ (Int.ofNat ts.length) (wrapF .i64 (Int.add (Int.ofNat i) (1:Int))) (Int.ofNat n) (Int.ofNat s) (Int.ofNat n) (aand .u32 (Int.ofNat z) (Int.ofNat (turnN n s (plc n t)))) = _
  rw [wrapS i (by omega),aand32 (lt32 (by omega) hz) (lt32 (n:=n) (by omega) turn_lt),ih];rfl
theorem p33 (k:Nat) (args:List Value):puN (k + 1) 33 args = m33 (puN k) L args:=by kernel_rfl
theorem pu_common2 (k f f2:Nat) {n:Nat} {l:List Nat} (h:Good n l) {ts:List Int} (ht:ts.length < 900000):puN (k + 3) 33 [seaF n f l,slI f2 ts] = some (tup2 (slv (marksN n (comN n (bitsOf l) ts (bitsOf l)))) (IV 0)):=by
 rw [p33]
 show oo (puN (k + 2) 61 [seaF n f l]) none _ = _
 rw [show puN (k + 2) 61 [seaF n f l] = _ from pu_opened k f h.pos h.le h.few h.up h.lt,oo_some]
 exact common2_loop k h.pos h.le (bitsOf_lt h.lt) ht f2 ts L 0 _ List.drop_zero (by show _ < 1000000;omega) (by omega) (bitsOf_lt h.lt)
end Go.RgP
set_option maxRecDepth 100000
set_option maxHeartbeats 4000000
namespace Go.RgP
open Go Go.Sp Go.RgDM
theorem ret75 (pu:PureF) (L:Nat) (q:List Nat) (c:Nat):m75_0 pu L q.length c (vL q) = some (slv q):=by
 unfold m75_0
 rw [vL_closed,bb_true,fin_vL]
theorem count_loop (k : Nat) {n : Nat} {l : List Nat} (h : Good n l) (f : Nat) (ih0 : Nat → Nat → Int → Int → Sl → List Value → Option Value) (d c : Nat) (q : List Nat) (hd0 : 0 < d) (hdn : d < n) (hq : q.length ≤ 30) (hc : c / 2 = q.length) (hc2 : c % 2 = 0) :
 ∀ (r:List Nat) (w i z:Nat),l.drop i = r→r.length < w→i≤l.length→z≤i →
 l75_4 (puN (k + 1)) L ih0 w q.length c (Int.ofNat d) (Int.ofNat z) (Int.ofNat i) (Int.ofNat n) ⟨l.length, f, vL l⟩ (vL q) =
  ih0 (q.length + 1) (2 * (q.length + 1) + bb false 1 0) (Int.ofNat (d + 1)) (Int.ofNat n) ⟨l.length,f,vL l⟩ (vL (q ++ [z + r.countP fun a=>decide ((a + d) % n ∈ l)]))
 | _,0,_,_,_,hw,_,_=>by omega
 | [], w + 1, i, z, hd, _, hi, hz => by
  show b75_4 (puN (k + 1)) L ih0 (l75_4 (puN (k + 1)) L ih0 w) q.length c (Int.ofNat d) (Int.ofNat z) (Int.ofNat i) (Int.ofNat n) ⟨l.length,f,vL l⟩ (vL q) = _
  have h1:l.length≤i:=List.drop_eq_nil_iff.1 hd
  have hn:=h.le
  unfold b75_4
  rw [vL_closed,bb_true]
  show bb (ilt (Int.ofNat i) (Int.ofNat l.length)) _ _ = _
  rw [ilt_nat,show Nat.blt i l.length = false from by rw [blt_eq];simp;omega,bb_false]
  unfold m75_3 m75_2
  rw [grow_vL (by omega) hc hc2,bb_true,vL_snoc,vL_closed,bb_true,bb_true,wrapS d (by omega)];rfl
 | x :: r, w + 1, i, z, hd, hw, hi, hz => by
  show b75_4 (puN (k + 1)) L ih0 (l75_4 (puN (k + 1)) L ih0 w) q.length c (Int.ofNat d) (Int.ofNat z) (Int.ofNat i) (Int.ofNat n) ⟨l.length,f,vL l⟩ (vL q) = _
  obtain ⟨hd2,hi2,hx⟩:=drop_next hd
  have hr:(x :: r).length = r.length + 1:=rfl
  have hlt:Nat.blt i l.length = true:=by rw [blt_eq];simp;omega
  have hn:=h.le
  have hfew:=h.few
  have hxn:=h.lt x hx
  have go:=fun z' hz'=>count_loop k h f ih0 d c q hd0 hdn hq hc hc2 r w (i + 1) z' hd2 (by omega) (by omega) hz'
  have e1:wrapF .i64 (Int.add (Int.ofNat x) (Int.ofNat d)) = ((x + d:Nat):Int):=by
   show wrapF .i64 ((x:Int) + (d:Int)) = _
   rw [wrapI _ (by omega) (by omega)];omega
  have e2:plc n ((x + d:Nat):Int) = (x + d) % n:=plc_nat _
  unfold b75_4
  rw [vL_closed,bb_true]
  show bb (ilt (Int.ofNat i) (Int.ofNat l.length)) (oo (toN (Int.ofNat i)) none _) _ = _
  rw [ilt_nat,hlt,bb_true,show toN (Int.ofNat i) = some i from rfl,oo_some]
  show bb (an (Nat.blt i l.length) true) (oo (nthL (vL l) (i * 1)) none _) none = _
  rw [hlt,show an true true = true from rfl,bb_true,vL_get hd,oo_some,show ∀ z,toI .i64 (IV z) = some z from fun _=>rfl,oo_some,e1]
  show oo (puN (k + 1) 64 [IV ((x + d:Nat):Int),IV (Int.ofNat n)]) none _ = _
  rw [pu_rest k h.pos (by omega),e2,oo_some]
  show oo (puN (k + 1) 63 [seaF n f l,IV (Int.ofNat ((x + d) % n))]) none _ = _
  rw [pu_marked k n f _ (by omega),oo_some]
  show bb (decide ((x + d) % n ∈ l)) (m75_5 (puN (k + 1)) L ih0 (l75_4 (puN (k + 1)) L ih0 w) q.length c (Int.ofNat d) (wrapF .i64 (Int.add (Int.ofNat z) (1:Int))) (Int.ofNat i) (Int.ofNat n) ⟨l.length,f,vL l⟩ (vL q)) (m75_5 (puN (k + 1)) L ih0 (l75_4 (puN (k + 1)) L ih0 w) q.length c (Int.ofNat d) (Int.ofNat z) (Int.ofNat i) (Int.ofNat n) ⟨l.length,f,vL l⟩ (vL q)) = _
  unfold m75_5
  rw [vL_closed,bb_true,wrapS i (by omega),wrapS z (by omega),List.countP_cons]
  by_cases hm:(x + d) % n ∈ l
  ·rw [decide_eq_true hm,bb_true,go (z + 1) (by omega),if_pos rfl,Nat.add_comm (List.countP _ r) 1,Nat.add_assoc]
  ·rw [decide_eq_false hm,bb_false,bb_true,go z (by omega)];rfl
theorem dists_loop (k : Nat) {n : Nat} {l : List Nat} (h : Good n l) (f : Nat) : ∀ (j w d c : Nat) (q : List Nat), j < w → d + j = n → 0 < d → q.length = d - 1 → c / 2 = q.length → c % 2 = 0 →
 l75_1 (puN (k + 1)) L w q.length c (Int.ofNat d) (Int.ofNat n) ⟨l.length,f,vL l⟩ (vL q) = some (slv (q ++ (List.range j).map fun i=>cntD n l (d + i)))
 | j,0,_,_,_,hw,_,_,_,_,_=>by omega
 | 0, w + 1, d, c, q, _, hd, h0, _, _, _ => by
  show b75_1 (puN (k + 1)) L (l75_1 (puN (k + 1)) L w) q.length c (Int.ofNat d) (Int.ofNat n) ⟨l.length,f,vL l⟩ (vL q) = _
  unfold b75_1
  rw [vL_closed,bb_true,ilt_nat,show Nat.blt d n = false from by rw [blt_eq];simp;omega,bb_false,ret75]
  show _ = some (slv (q ++ []))
  rw [List.append_nil]
 | j + 1, w + 1, d, c, q, hw, hd, h0, hq, hc, hc2 => by
  show b75_1 (puN (k + 1)) L (l75_1 (puN (k + 1)) L w) q.length c (Int.ofNat d) (Int.ofNat n) ⟨l.length,f,vL l⟩ (vL q) = _
  have hn:=h.le
  have hfew:=h.few
  unfold b75_1
  rw [vL_closed,bb_true,ilt_nat,show Nat.blt d n = true from by rw [blt_eq];simp;omega,bb_true]
  have hcount:=count_loop k h f (l75_1 (puN (k + 1)) L w) d c q h0 (by omega) (by omega) hc hc2 l L 0 0 List.drop_zero (by show _ < 1000000;omega) (by omega) (Nat.le_refl _)
  have hcount:l75_4 (puN (k + 1)) L (l75_1 (puN (k + 1)) L w) L q.length c (Int.ofNat d) (0:Int) (0:Int) (Int.ofNat n) ⟨l.length,f,vL l⟩ (vL q) = _:=hcount
  have ih:=dists_loop k h f j w (d + 1) (2 * (q.length + 1) + bb false 1 0) (q ++ [cntD n l d]) (by omega) (by omega) (by omega) (by simp;omega) (by simp) (by simp)
  rw [List.length_append,show [cntD n l d].length = 1 from rfl] at ih
  rw [hcount,Nat.zero_add,show (l.countP fun a=>decide ((a + d) % n ∈ l)) = cntD n l d from rfl,ih,List.append_assoc,List.range_succ_eq_map,List.map_cons,List.map_map]
  congr 4
  show [cntD n l d] ++ _ = _
  rw [List.singleton_append,Nat.add_zero]
  congr 1
  apply List.map_congr_left
  intro i _
  show cntD n l (d + 1 + i) = cntD n l (d + (i + 1))
  rw [show d + 1 + i = d + (i + 1) by omega]
theorem p75 (k:Nat) (args:List Value):puN (k + 1) 75 args = m75 (puN k) L args:=by kernel_rfl
theorem pu_dists75 (k f:Nat) {n:Nat} {l:List Nat} (h:Good n l):puN (k + 2) 75 [seaF n f l] = some (slv (dists n l)):=by
 have hn0:=h.pos
 have hn:=h.le
 rw [p75]
 have hl:=dists_loop k h f (n - 1) L 1 0 [] (by show n - 1 < 1000000;omega) (by omega) (by omega) rfl rfl rfl
 have e:(List.range (n - 1)).map (fun i=>cntD n l (1 + i)) = dists n l:=by
  unfold dists
  apply List.map_congr_left
  intro i _
  rw [Nat.add_comm]
 rw [List.nil_append,e] at hl
 exact hl
theorem find_range (n : Nat) (l : List Nat) (pu : PureF) (L : Nat) {D : List Nat} (hD : D = dists n l) (hlen : D.length < 900000) : ∀ (m w i : Nat), m < w → i + m = n - 1 →
 l77_1 pu L w ⟨D.length,0,vL D⟩ (Int.ofNat i) = some (IV (Int.ofNat ((((List.range' i m).map (· + 1)).find? fun d=>decide (1 < cntD n l d)).getD 0)))
 | m,0,_,h,_=>by omega
 | 0, w + 1, i, _, hi => by
  show b77_1 pu L (l77_1 pu L w) ⟨D.length,0,vL D⟩ (Int.ofNat i) = _
  have h1:D.length = n - 1:=by rw [hD];exact dists_len n l
  unfold b77_1
  show bb (ilt (Int.ofNat i) (Int.ofNat D.length)) _ _ = _
  rw [ilt_nat,show Nat.blt i D.length = false from by rw [blt_eq];simp;omega];rfl
 | m + 1, w + 1, i, hw, hi => by
  show b77_1 pu L (l77_1 pu L w) ⟨D.length,0,vL D⟩ (Int.ofNat i) = _
  have h1:D.length = n - 1:=by rw [hD];exact dists_len n l
  have hlt:Nat.blt i D.length = true:=by rw [blt_eq];simp;omega
  have ih:=find_range n l pu L hD hlen m w (i + 1) (by omega) (by omega)
  have hcell:nthL (vL D) (i * 1) = some (IV (Int.ofNat (cntD n l (i + 1)))):=by
   rw [nthL_eq,Nat.mul_one];unfold vL
   rw [List.getElem?_map,hD]
   rw [dists_get (by omega)];rfl
  unfold b77_1
  show bb (ilt (Int.ofNat i) (Int.ofNat D.length)) (oo (toN (Int.ofNat i)) none _) _ = _
  rw [ilt_nat,hlt,bb_true,show toN (Int.ofNat i) = some i from rfl,oo_some]
  show bb (an (Nat.blt i D.length) true) (oo (nthL (vL D) (i * 1)) none _) none = _
  rw [hlt,show an true true = true from rfl,bb_true,hcell,oo_some,show ∀ z,toI .i64 (IV z) = some z from fun _=>rfl,oo_some,wrapS i (by omega),ih,show ilt (1:Int) (Int.ofNat (cntD n l (i + 1))) = Nat.blt 1 (cntD n l (i + 1)) from ilt_nat 1 _,blt_eq,List.range'_succ,List.map_cons]
  by_cases hc:1 < cntD n l (i + 1)
  ·rw [decide_eq_true hc,List.find?_cons_of_pos (by simpa using hc)];rfl
  ·rw [decide_eq_false hc,List.find?_cons_of_neg (by simpa using hc)];rfl
theorem p77 (k:Nat) (args:List Value):puN (k + 1) 77 args = m77 (puN k) L args:=by kernel_rfl
theorem pu_clash77 (k f:Nat) {n:Nat} {l:List Nat} (h:Good n l):puN (k + 3) 77 [seaF n f l] = some (IV (Int.ofNat (firstD n l))):=by
 have hn0:=h.pos
 have hn:=h.le
 rw [p77]
 show oo (puN (k + 2) 75 [seaF n f l]) none _ = _
 rw [pu_dists75 k f h,oo_some]
 have hl:=find_range n l (puN (k + 2)) L (D:=dists n l) rfl (by rw [dists_len];omega) (n - 1) L 0 (by show n - 1 < 1000000;omega) (by omega)
 rw [←List.range_eq_range'] at hl
 exact hl
theorem perf_range (n : Nat) (l : List Nat) (pu : PureF) (L : Nat) {D : List Nat} (hD : D = dists n l) (hlen : D.length < 900000) : ∀ (m w i : Nat), m < w → i + m = n - 1 →
 l79_1 pu L w ⟨D.length,0,vL D⟩ (Int.ofNat i) = some (.bool ((List.range' i m).all fun i=>cntD n l (i + 1) == 1))
 | m,0,_,h,_=>by omega
 | 0, w + 1, i, _, hi => by
  show b79_1 pu L (l79_1 pu L w) ⟨D.length,0,vL D⟩ (Int.ofNat i) = _
  have h1:D.length = n - 1:=by rw [hD];exact dists_len n l
  unfold b79_1
  show bb (ilt (Int.ofNat i) (Int.ofNat D.length)) _ _ = _
  rw [ilt_nat,show Nat.blt i D.length = false from by rw [blt_eq];simp;omega];rfl
 | m + 1, w + 1, i, hw, hi => by
  show b79_1 pu L (l79_1 pu L w) ⟨D.length,0,vL D⟩ (Int.ofNat i) = _
  have h1:D.length = n - 1:=by rw [hD];exact dists_len n l
  have hlt:Nat.blt i D.length = true:=by rw [blt_eq];simp;omega
  have ih:=perf_range n l pu L hD hlen m w (i + 1) (by omega) (by omega)
  have hcell:nthL (vL D) (i * 1) = some (IV (Int.ofNat (cntD n l (i + 1)))):=by
   rw [nthL_eq,Nat.mul_one];unfold vL
   rw [List.getElem?_map,hD]
   rw [dists_get (by omega)];rfl
  unfold b79_1
  show bb (ilt (Int.ofNat i) (Int.ofNat D.length)) (oo (toN (Int.ofNat i)) none _) _ = _
  rw [ilt_nat,hlt,bb_true,show toN (Int.ofNat i) = some i from rfl,oo_some]
  show bb (an (Nat.blt i D.length) true) (oo (nthL (vL D) (i * 1)) none _) none = _
  rw [hlt,show an true true = true from rfl,bb_true,hcell,oo_some,show ∀ z,toI .i64 (IV z) = some z from fun _=>rfl,oo_some,wrapS i (by omega),ih,show ieq (Int.ofNat (cntD n l (i + 1))) (1:Int) = Nat.beq (cntD n l (i + 1)) 1 from ieq_nat _ 1,List.range'_succ,List.all_cons]
  by_cases hc:cntD n l (i + 1) = 1
  ·rw [hc];rfl
  ·rw [beq_ne hc,show (cntD n l (i + 1) == 1) = false from by simpa using hc];rfl
theorem p79 (k:Nat) (args:List Value):puN (k + 1) 79 args = m79 (puN k) L args:=by kernel_rfl
theorem pu_perf79 (k f:Nat) {n:Nat} {l:List Nat} (h:Good n l):puN (k + 3) 79 [seaF n f l] = some (.bool (perfD n l)):=by
 have hn0:=h.pos
 have hn:=h.le
 rw [p79]
 show oo (puN (k + 2) 75 [seaF n f l]) none _ = _
 rw [pu_dists75 k f h,oo_some]
 have hl:=perf_range n l (puN (k + 2)) L (D:=dists n l) rfl (by rw [dists_len];omega) (n - 1) L 0 (by show n - 1 < 1000000;omega) (by omega)
 rw [←List.range_eq_range'] at hl
 exact hl
def inAll (n:Nat) (l:List Nat) (p:Nat) (ts:List Int):Bool:=ts.all fun t=>decide (plc n ((p:Int) - ((plc n t:Nat):Int)) ∈ l)
theorem all_loop (k : Nat) {n : Nat} {l : List Nat} (h : Good n l) (f f2 : Nat) {ts : List Int} (ht : ts.length < 900000) (ih0 : Sl → Nat → Nat → Int → Int → Sl → List Value → Option Value) (c : Nat) (q : List Nat) (p : Nat) (hp : p < n) :
 ∀ (r:List Int) (w i:Nat) (b:Bool),ts.drop i = r→r.length < w→i≤ts.length →
 l34_4 (puN (k + 1)) L ih0 w ⟨ts.length, f2, iLI ts⟩ q.length c (Int.ofNat p) b (Int.ofNat i) (Int.ofNat n) ⟨l.length, f, vL l⟩ (vL q) =
  m34_3 (puN (k + 1)) L ih0 ⟨ts.length,f2,iLI ts⟩ q.length c (Int.ofNat p) (b && inAll n l p r) (Int.ofNat n) ⟨l.length,f,vL l⟩ (vL q)
 | _,0,_,_,_,hw,_=>by omega
 | [], w + 1, i, b, hd, _, hi => by
  show b34_4 (puN (k + 1)) L ih0 (l34_4 (puN (k + 1)) L ih0 w) ⟨ts.length,f2,iLI ts⟩ q.length c (Int.ofNat p) b (Int.ofNat i) (Int.ofNat n) ⟨l.length,f,vL l⟩ (vL q) = _
  have h1:ts.length≤i:=List.drop_eq_nil_iff.1 hd
  unfold b34_4
  rw [vL_closed,bb_true]
  show bb (ilt (Int.ofNat i) (Int.ofNat ts.length)) _ _ = _
  rw [ilt_nat,show Nat.blt i ts.length = false from by rw [blt_eq];simp;omega,bb_false]
  congr 1
  cases b <;> rfl
 | t :: r, w + 1, i, b, hd, hw, hi => by
  show b34_4 (puN (k + 1)) L ih0 (l34_4 (puN (k + 1)) L ih0 w) ⟨ts.length,f2,iLI ts⟩ q.length c (Int.ofNat p) b (Int.ofNat i) (Int.ofNat n) ⟨l.length,f,vL l⟩ (vL q) = _
  obtain ⟨hd2,hi2,_⟩:=dropI_next hd
  have hr:(t :: r).length = r.length + 1:=rfl
  have hlt:Nat.blt i ts.length = true:=by rw [blt_eq];simp;omega
  have hn:=h.le
  have hpl:=plc_lt h.pos t
  have hfew:=h.few
  have go:=fun b'=>all_loop k h f f2 ht ih0 c q p hp r w (i + 1) b' hd2 (by omega) (by omega)
  unfold b34_4
  rw [vL_closed,bb_true]
  show bb (ilt (Int.ofNat i) (Int.ofNat ts.length)) _ _ = _
  rw [ilt_nat,hlt,bb_true,wrapS i (by omega)]
  cases b with
  | false=>rw [bb_false,go];rfl
  | true =>
   rw [bb_true,show toN (Int.ofNat i) = some i from rfl,oo_some]
   show bb (an (Nat.blt i ts.length) true) (oo (nthL (iLI ts) (i * 1)) none _) none = _
   rw [hlt,show an true true = true from rfl,bb_true,iLI_get hd,oo_some,show ∀ z,toI .i64 (IV z) = some z from fun _=>rfl,oo_some]
   show oo (puN (k + 1) 64 [IV t,IV (Int.ofNat n)]) none _ = _
   rw [pu_rest k h.pos (by omega),oo_some]
   have e1:wrapF .i64 (Int.sub (Int.ofNat p) (Int.ofNat (plc n t))) = (p:Int) - ((plc n t:Nat):Int):=wrapI _ (by show _≤(p:Int) - ((plc n t:Nat):Int);omega) (by show (p:Int) - ((plc n t:Nat):Int)≤_;omega)
   show oo (puN (k + 1) 64 [IV (wrapF .i64 (Int.sub (Int.ofNat p) (Int.ofNat (plc n t)))),IV (Int.ofNat n)]) none _ = _
   rw [e1,pu_rest k h.pos (by omega),oo_some]
   show oo (puN (k + 1) 63 [seaF n f l,IV (Int.ofNat (plc n ((p:Int) - ((plc n t:Nat):Int))))]) none _ = _
   rw [pu_marked k n f _ (by omega),oo_some]
   show l34_4 (puN (k + 1)) L ih0 w ⟨ts.length,f2,iLI ts⟩ q.length c (Int.ofNat p) (decide (plc n ((p:Int) - ((plc n t:Nat):Int)) ∈ l)) (wrapF .i64 (Int.add (Int.ofNat i) (1:Int))) (Int.ofNat n) ⟨l.length,f,vL l⟩ (vL q) = _
   rw [wrapS i (by omega),go];rfl
def comF (n : Nat) (l : List Nat) (ts : List Int) : Nat → Nat → List Nat
 | 0,_=>[]
 | k + 1,p=>bif decide (p ∈ l) && inAll n l p ts then p :: comF n l ts k (p + 1) else comF n l ts k (p + 1)
theorem com_loop (k : Nat) {n : Nat} {l : List Nat} (h : Good n l) (f f2 : Nat) {ts : List Int} (ht : ts.length < 900000) : ∀ (j w p c : Nat) (q : List Nat), j < w → p + j = n → q.length ≤ p → c / 2 = q.length → c % 2 = 0 →
 l34_1 (puN (k + 1)) L w ⟨ts.length,f2,iLI ts⟩ q.length c (Int.ofNat p) (Int.ofNat n) ⟨l.length,f,vL l⟩ (vL q) = some (tup2 (slv (q ++ comF n l ts j p)) (IV 0))
 | j,0,_,_,_,hw,_,_,_,_=>by omega
 | 0, w + 1, p, c, q, _, hk, _, _, _ => by
  show b34_1 (puN (k + 1)) L (l34_1 (puN (k + 1)) L w) ⟨ts.length,f2,iLI ts⟩ q.length c (Int.ofNat p) (Int.ofNat n) ⟨l.length,f,vL l⟩ (vL q) = _
  unfold b34_1
  rw [vL_closed,bb_true,ilt_nat,show Nat.blt p n = false from by rw [blt_eq];simp;omega,bb_false]
  unfold m34_0
  have e1:takeL (q.length * 1) (dropL 0 (vL q)) = vL q:=by
   rw [takeL_eq,dropL_eq,List.drop_zero,Nat.mul_one,←vL_len q,List.take_length]
  rw [e1,vL_closed,bb_true,len_eq,vL_len,show Nat.ble (0 + q.length * 1) q.length = true from Nat.ble_eq_true_of_le (by omega)]
  show _ = some (tup2 (slv (q ++ [])) (IV 0))
  rw [List.append_nil];rfl
 | j + 1, w + 1, p, c, q, hw, hk, hq, hc, hc2 => by
  show b34_1 (puN (k + 1)) L (l34_1 (puN (k + 1)) L w) ⟨ts.length,f2,iLI ts⟩ q.length c (Int.ofNat p) (Int.ofNat n) ⟨l.length,f,vL l⟩ (vL q) = _
  have hn:=h.le
  have hfew:=h.few
  have stay:=com_loop k h f f2 ht j w (p + 1) c q (by omega) (by omega) (by omega) hc hc2
  have go:=com_loop k h f f2 ht j w (p + 1) (2 * (q.length + 1) + bb false 1 0) (q ++ [p]) (by omega) (by omega) (by simp;omega) (by simp) (by simp)
  rw [List.length_append,show [p].length = 1 from rfl] at go
  unfold b34_1
  rw [vL_closed,bb_true,ilt_nat,show Nat.blt p n = true from by rw [blt_eq];simp;omega,bb_true]
  show oo (puN (k + 1) 63 [seaF n f l,IV (Int.ofNat p)]) none _ = _
  rw [pu_marked k n f p (by omega),oo_some]
  show l34_4 (puN (k + 1)) L (l34_1 (puN (k + 1)) L w) L ⟨ts.length,f2,iLI ts⟩ q.length c (Int.ofNat p) (decide (p ∈ l)) (Int.ofNat 0) (Int.ofNat n) ⟨l.length,f,vL l⟩ (vL q) = _
  rw [all_loop k h f f2 ht (l34_1 (puN (k + 1)) L w) c q p (by omega) ts L 0 (decide (p ∈ l)) List.drop_zero (by show _ < 1000000;omega) (by omega)]
  unfold m34_3 m34_2 comF
  rw [vL_closed,bb_true]
  cases (decide (p ∈ l) && inAll n l p ts) with
  | false=>rw [bb_false,bb_true,wrapS p (by omega),stay];rfl
  | true =>
   rw [bb_true,grow_vL (by omega) hc hc2,bb_true,vL_snoc,vL_closed,bb_true,bb_true,wrapS p (by omega),go,List.append_assoc];rfl
theorem p34 (k:Nat) (args:List Value):puN (k + 1) 34 args = m34 (puN k) L args:=by kernel_rfl
theorem comF_mem (n : Nat) (l : List Nat) (ts : List Int) : ∀ (k p x : Nat), x ∈ comF n l ts k p ↔ p ≤ x ∧ x < p + k ∧ x ∈ l ∧ inAll n l x ts = true
 | 0,p,x=>by simp [comF];omega
 | k + 1, p, x => by
  have ih:=comF_mem n l ts k (p + 1) x
  unfold comF
  cases hb:(decide (p ∈ l) && inAll n l p ts) with
  | true =>
   rw [Bool.and_eq_true,decide_eq_true_eq] at hb
   show x ∈ p :: comF n l ts k (p + 1)↔_
   rw [List.mem_cons,ih]
   constructor
   ·rintro (rfl | ⟨h1, h2, h3⟩)
    ·exact ⟨Nat.le_refl _,by omega,hb⟩
    ·exact ⟨by omega,by omega,h3⟩
   ·rintro ⟨h1, h2, h3⟩
    by_cases h:x = p
    ·exact .inl h
    ·exact .inr ⟨by omega,by omega,h3⟩
  | false =>
   show x ∈ comF n l ts k (p + 1)↔_
   rw [ih]
   constructor
   ·rintro ⟨h1,h2,h3⟩;exact ⟨by omega,by omega,h3⟩
   ·rintro ⟨h1, h2, h3⟩
    refine ⟨?_,by omega,h3⟩
    by_cases h:x = p
    ·subst h;rw [decide_eq_true h3.1,h3.2] at hb;cases hb
    ·omega
theorem comF_sorted (n : Nat) (l : List Nat) (ts : List Int) : ∀ (k p : Nat), (comF n l ts k p).Pairwise (· < ·)
 | 0,p=>by simp [comF]
 | k + 1, p => by
  have ih:=comF_sorted n l ts k (p + 1)
  unfold comF
  cases (decide (p ∈ l) && inAll n l p ts) with
  | true =>
   show (p :: comF n l ts k (p + 1)).Pairwise _
   exact List.pairwise_cons.2 ⟨fun x hx=>by have:=(comF_mem n l ts k (p + 1) x).1 hx;omega,ih⟩
  | false=>exact ih
theorem comN_bit {n s : Nat} (hn : n ≤ 31) (hn0 : 0 < n) (hs : s < 2 ^ n) {q : Nat} (hq : q < n) : ∀ (ts : List Int) (z : Nat), (comN n s ts z).testBit q = (z.testBit q && ts.all fun t => s.testBit ((q + (n - plc n t)) % n))
 | [],z=>by simp [comN]
 | t :: ts, z => by
  show (comN n s ts (z &&& turnN n s (plc n t))).testBit q = _
  rw [comN_bit hn hn0 hs hq ts,Nat.testBit_and,turn_bit hn hs (plc_lt hn0 t),decide_eq_true hq,List.all_cons,Bool.true_and,Bool.and_assoc]
theorem com_eq {n:Nat} {l:List Nat} (h:Good n l) (ts:List Int):comF n l ts n 0 = marksN n (comN n (bitsOf l) ts (bitsOf l)):=by
 have hlt:=bitsOf_lt h.lt
 have hn:=h.le
 have hz:=comN_lt (n:=n) (s:=bitsOf l) (ts:=ts) hlt
 have hz32:=lt32 (n:=n) (by omega) hz
 refine sorted_ext (comF_sorted n l ts n 0) (marks_sorted hz32) fun x=>?_
 rw [comF_mem,mem_marks hz32]
 have key:∀ x,x < n→(inAll n l x ts = true↔(ts.all fun t=>(bitsOf l).testBit ((x + (n - plc n t)) % n)) = true):=fun x hx=>by
  unfold inAll
  have:∀ t,decide (plc n ((x:Int) - ((plc n t:Nat):Int)) ∈ l) = (bitsOf l).testBit ((x + (n - plc n t)) % n):=fun t=>by
   rw [bitsOf_bit]
   have hp:=plc_lt h.pos t
   generalize plc n t = b at hp
   have e:(x:Int) - ((b:Nat):Int) = ((x + (n - b):Nat):Int) + (n:Int) * (-1):=by omega
   have:plc n ((x:Int) - ((b:Nat):Int)) = (x + (n - b)) % n:=by
    rw [←plc_nat (n:=n) (x + (n - b)),e]
    unfold plc
    rw [Int.add_mul_emod_self_left]
   rw [this]
  rw [List.all_congr rfl this]
 constructor
 ·rintro ⟨_, h1, h2, h3⟩
  have h1:x < n:=by omega
  refine ⟨h1,?_⟩
  rw [comN_bit (by omega) h.pos hlt h1,bitsOf_bit,decide_eq_true h2,Bool.true_and]
  exact (key x h1).1 h3
 ·rintro ⟨h1, h2⟩
  rw [comN_bit (by omega) h.pos hlt h1,bitsOf_bit,Bool.and_eq_true,decide_eq_true_eq] at h2
  exact ⟨by omega,by omega,h2.1,(key x h1).2 h2.2⟩
theorem pu_common34 (k f f2:Nat) {n:Nat} {l:List Nat} (h:Good n l) {ts:List Int} (ht:ts.length < 900000):puN (k + 3) 34 [seaF n f l,slI f2 ts] = some (tup2 (slv (marksN n (comN n (bitsOf l) ts (bitsOf l)))) (IV 0)):=by
 have hn:=h.le
 rw [p34]
 show oo (puN (k + 2) 26 [seaF n f l]) none _ = _
 have hl:=com_loop (k + 1) h f f2 ht n L 0 0 [] (by show n < 1000000;omega) (by omega) (by simp) rfl rfl
 rw [show k + 1 + 1 = k + 2 from rfl,List.nil_append,com_eq h] at hl
 have hl:l34_1 (puN (k + 2)) L L ⟨ts.length,f2,iLI ts⟩ 0 0 (Int.ofNat 0) (Int.ofNat n) ⟨l.length,f,vL l⟩ [] = _:=hl
 rw [pu_check26_ok k f h,oo_some]
 show bb (nt (ieq (0:Int) 0)) (some (tup2 (Sl.v 1 (Sl.mk 0 2 [])) (IV 0))) (l34_1 (puN (k + 2)) L L ⟨ts.length,f2,iLI ts⟩ 0 0 (Int.ofNat 0) (Int.ofNat n) ⟨l.length,f,vL l⟩ []) = _
 rw [hl];rfl
end Go.RgP
set_option maxRecDepth 100000
set_option maxHeartbeats 4000000
namespace Go.RgP
open Go Go.Sp Go.RgDM
theorem p27 (k:Nat) (args:List Value):puN (k + 1) 27 args = m27 (puN k) L args:=by kernel_rfl
theorem pu_distances (k f:Nat) {n:Nat} {l:List Nat} (h:Good n l):puN (k + 5) 27 [seaF n f l] = some (tup2 (slv (dists n l)) (IV 0)):=by
 rw [p27]
 show oo (puN (k + 4) 61 [seaF n f l]) none _ = _
 rw [show puN (k + 4) 61 [seaF n f l] = _ from pu_opened (k + 2) f h.pos h.le h.few h.up h.lt,oo_some]
 show oo (puN (k + 4) 74 [tv n (bitsOf l)]) none _ = _
 rw [pu_dists k h,oo_some];rfl
end Go.RgP
set_option maxRecDepth 100000
set_option maxHeartbeats 4000000
namespace Go.RgP
open Go Go.Sp Go.RgDM
theorem p29 (k:Nat) (args:List Value):puN (k + 1) 29 args = m29 (puN k) L args:=by kernel_rfl
theorem pu_narrow (k f:Nat) {n:Nat} {l:List Nat} (h:Good n l):puN (k + 5) 29 [seaF n f l] = some (tup2 (IV (Int.ofNat (firstD n l))) (IV (bif Nat.blt 0 (firstD n l) then 13 else 0))):=by
 rw [p29]
 show oo (puN (k + 4) 61 [seaF n f l]) none _ = _
 rw [show puN (k + 4) 61 [seaF n f l] = _ from pu_opened (k + 2) f h.pos h.le h.few h.up h.lt,oo_some]
 show oo (puN (k + 4) 76 [tv n (bitsOf l)]) none _ = _
 rw [pu_clashes k h,oo_some]
 show bb (ilt (0:Int) (Int.ofNat (firstD n l))) _ _ = _
 rw [show (0:Int) = Int.ofNat 0 from rfl,ilt_nat]
 cases hb:Nat.blt 0 (firstD n l) with
 | true=>rfl
 | false =>
  have:firstD n l = 0:=by rw [blt_eq] at hb;simpa using hb
  rw [this];rfl
end Go.RgP
set_option maxRecDepth 100000
set_option maxHeartbeats 4000000
namespace Go.RgP
open Go Go.Sp Go.RgDM
theorem same_loop (pu : PureF) (L : Nat) {a b : List Int} (hab : a.length = b.length) (ha : a.length < 900000) (f1 f2 : Nat) : ∀ (r r' : List Int) (w i : Nat), a.drop i = r → b.drop i = r' → r.length < w → i ≤ a.length →
 l23_1 pu L w ⟨a.length,f1,iLI a⟩ ⟨b.length,f2,iLI b⟩ (Int.ofNat i) = some (.bool (decide (r = r')))
 | _,_,0,_,_,_,h,_=>by omega
 | [], r', w + 1, i, hd, hd', _, hi => by
  show b23_1 pu L (l23_1 pu L w) ⟨a.length,f1,iLI a⟩ ⟨b.length,f2,iLI b⟩ (Int.ofNat i) = _
  have h1:a.length≤i:=List.drop_eq_nil_iff.1 hd
  have h2:r' = []:=by rw [←hd'];exact List.drop_eq_nil_iff.2 (by omega)
  subst h2
  unfold b23_1
  show bb (ilt (Int.ofNat i) (Int.ofNat a.length)) _ _ = _
  rw [ilt_nat,show Nat.blt i a.length = false from by rw [blt_eq];simp;omega];simp;rfl
 | x :: r, r', w + 1, i, hd, hd', hw, hi => by
  show b23_1 pu L (l23_1 pu L w) ⟨a.length,f1,iLI a⟩ ⟨b.length,f2,iLI b⟩ (Int.ofNat i) = _
  obtain ⟨hd2,hi2,_⟩:=dropI_next hd
  cases r' with
  | nil =>
   have h1:b.length≤i:=List.drop_eq_nil_iff.1 hd'
   omega
  | cons y r' =>
   obtain ⟨hd3,_,_⟩:=dropI_next hd'
   have hr:(x :: r).length = r.length + 1:=rfl
   have hlt:Nat.blt i a.length = true:=by rw [blt_eq];simp;omega
   have hlt2:Nat.blt i b.length = true:=by rw [blt_eq];simp;omega
   have ih:=same_loop pu L hab ha f1 f2 r r' w (i + 1) hd2 hd3 (by omega) (by omega)
   unfold b23_1
   show bb (ilt (Int.ofNat i) (Int.ofNat a.length)) (oo (toN (Int.ofNat i)) none fun k=>bb (an (Nat.blt k a.length) true) (oo (nthL (iLI a) (k * 1)) none fun v=>oo (toI .i64 v) none fun x1=>bb (an (Nat.blt k b.length) true) (oo (nthL (iLI b) (k * 1)) none fun v=>oo (toI .i64 v) none fun x2=>bb (nt (ieq x1 x2)) (some (.bool false)) (l23_1 pu L w ⟨a.length,f1,iLI a⟩ ⟨b.length,f2,iLI b⟩ (wrapF .i64 (Int.add (Int.ofNat k) (1:Int))))) none) none) (m23_0 pu L) = _
   rw [ilt_nat, hlt, bb_true, show toN (Int.ofNat i) = some i from rfl, oo_some, hlt, show an true true = true from rfl, bb_true, iLI_get hd, oo_some, show ∀ z, toI .i64 (IV z) = some z from fun _ => rfl, oo_some, hlt2, show an true true = true from rfl, bb_true, iLI_get hd', oo_some,
    show ∀ z,toI .i64 (IV z) = some z from fun _=>rfl,oo_some,wrapS i (by omega),ih,ieq_eq]
   by_cases h:x = y
   ·subst h;simp
   ·have hxy : (x == y) = false := by simpa using h
    have hc:¬ (x :: r = y :: r'):=fun e=>h (by injection e)
    rw [hxy,decide_eq_false hc];rfl
theorem p23 (k:Nat) (args:List Value):puN (k + 1) 23 args = m23 (puN k) L args:=by kernel_rfl
theorem pu_same (k f1 f2:Nat) {a b:List Int} (ha:a.length < 900000):puN (k + 1) 23 [slI f1 a,slI f2 b] = some (.bool (decide (a = b))):=by
 rw [p23]
 show bb (nt (ieq (Int.ofNat a.length) (Int.ofNat b.length))) (some (.bool false)) (l23_1 (puN k) L L ⟨a.length,f1,iLI a⟩ ⟨b.length,f2,iLI b⟩ (0:Int)) = _
 rw [ieq_nat,beq_dec]
 by_cases h:a.length = b.length
 ·rw [decide_eq_true h, show nt true = false from rfl, bb_false]
  exact same_loop (puN k) L h ha f1 f2 a b L 0 (List.drop_zero) (List.drop_zero) (by show _ < 1000000;omega) (by omega)
 ·have : ¬ a = b := fun e => h (by rw [e])
  rw [decide_eq_false h,decide_eq_false this];rfl
theorem pu_sameN (k:Nat) {a b:List Nat} (ha:a.length < 900000):puN (k + 1) 23 [slv a,slv b] = some (.bool (decide (a = b))):=by
 rw [slv_slI,slv_slI,pu_same k 0 0 (by simpa using ha)]
 congr 2
 exact decide_eq_decide.2 map_ofNat_inj
end Go.RgP
set_option maxRecDepth 100000
set_option maxHeartbeats 4000000
namespace Go.RgP
open Go Go.Sp Go.RgDM
noncomputable def seaI (n:Int) (l:List Int):Value:=.agg ⟨[IV n,slI 0 l]⟩
noncomputable def nilS:Value:=Sl.v 1 (Sl.mk 0 2 [])
theorem sea_seaI (n:Nat) (l:List Nat):seaF n 0 l = seaI (Int.ofNat n) (l.map Int.ofNat):=by unfold seaF seaI slI;rw [vL_iLI,List.length_map]
theorem p31 (k:Nat) (args:List Value):puN (k + 1) 31 args = m31 (puN k) L args:=by kernel_rfl
theorem p33' (k:Nat) (args:List Value):puN (k + 1) 33 args = m33 (puN k) L args:=by kernel_rfl
theorem p28 (k:Nat) (args:List Value):puN (k + 1) 28 args = m28 (puN k) L args:=by kernel_rfl
theorem p30 (k:Nat) (args:List Value):puN (k + 1) 30 args = m30 (puN k) L args:=by kernel_rfl
theorem p32 (k:Nat) (args:List Value):puN (k + 1) 32 args = m32 (puN k) L args:=by kernel_rfl
theorem pu_perfect (k f:Nat) {n:Nat} {l:List Nat} (h:Good n l):puN (k + 6) 31 [seaF n f l] = some (tup2 (.bool (perfD n l)) (IV 0)):=by
 have h2:=h.le
 rw [p31]
 show oo (puN (k + 5) 61 [seaF n f l]) none _ = _
 rw [show puN (k + 5) 61 [seaF n f l] = _ from pu_opened (k + 3) f h.pos h.le h.few h.up h.lt,oo_some]
 show oo (puN (k + 5) 78 [tv n (bitsOf l)]) none _ = _
 rw [pu_perf k h.pos (by omega),perfN_eq h.lt32,h.marks,oo_some];rfl
theorem pu_dist28 (k f:Nat) {n:Nat} {l:List Nat} (h:Good n l):puN (k + 3) 28 [seaF n f l] = some (tup2 (slv (dists n l)) (IV 0)):=by
 rw [p28]
 show oo (puN (k + 2) 26 [seaF n f l]) none _ = _
 rw [pu_check26_ok k f h,oo_some]
 show oo (puN (k + 2) 75 [seaF n f l]) none _ = _
 rw [pu_dists75 k f h];rfl
theorem pu_nar30 (k f:Nat) {n:Nat} {l:List Nat} (h:Good n l):puN (k + 4) 30 [seaF n f l] = some (tup2 (IV (Int.ofNat (firstD n l))) (IV (bif Nat.blt 0 (firstD n l) then 13 else 0))):=by
 rw [p30]
 show oo (puN (k + 3) 26 [seaF n f l]) none _ = _
 rw [pu_check26_ok (k + 1) f h,oo_some]
 show oo (puN (k + 3) 77 [seaF n f l]) none _ = _
 rw [pu_clash77 k f h,oo_some]
 show bb (ilt (0:Int) (Int.ofNat (firstD n l))) _ _ = _
 rw [show (0:Int) = Int.ofNat 0 from rfl,ilt_nat]
 cases hb:Nat.blt 0 (firstD n l) with
 | true=>rfl
 | false =>
  have:firstD n l = 0:=by rw [blt_eq] at hb;simpa using hb
  rw [this];rfl
theorem pu_perf32 (k f:Nat) {n:Nat} {l:List Nat} (h:Good n l):puN (k + 4) 32 [seaF n f l] = some (tup2 (.bool (perfD n l)) (IV 0)):=by
 rw [p32]
 show oo (puN (k + 3) 26 [seaF n f l]) none _ = _
 rw [pu_check26_ok (k + 1) f h,oo_some]
 show oo (puN (k + 3) 79 [seaF n f l]) none _ = _
 rw [pu_perf79 k f h];rfl
theorem chk_ne {n:Int} {l:List Int} (h:checkI n l ≠ 0):ieq (checkI n l) 0 = false:=by rw [ieq_eq];simpa using h
section
variable (k:Nat) {n:Int} {l:List Int} (hl:l.length < 900000) (h:checkI n l ≠ 0)
include hl h
theorem bad27:puN (k + 3) 27 [seaI n l] = some (tup2 nilS (IV (checkI n l))):=by
 rw [p27]
 show oo (puN (k + 2) 61 [.agg ⟨[IV n,slI 0 l]⟩]) none _ = _
 rw [pu_opened_bad k 0 hl h,oo_some]
 show bb (nt (ieq (checkI n l) 0)) _ _ = _
 rw [chk_ne h];rfl
theorem bad29:puN (k + 3) 29 [seaI n l] = some (tup2 (IV 0) (IV (checkI n l))):=by
 rw [p29]
 show oo (puN (k + 2) 61 [.agg ⟨[IV n,slI 0 l]⟩]) none _ = _
 rw [pu_opened_bad k 0 hl h,oo_some]
 show bb (nt (ieq (checkI n l) 0)) _ _ = _
 rw [chk_ne h];rfl
theorem bad31:puN (k + 3) 31 [seaI n l] = some (tup2 (.bool false) (IV (checkI n l))):=by
 rw [p31]
 show oo (puN (k + 2) 61 [.agg ⟨[IV n,slI 0 l]⟩]) none _ = _
 rw [pu_opened_bad k 0 hl h,oo_some]
 show bb (nt (ieq (checkI n l) 0)) _ _ = _
 rw [chk_ne h];rfl
theorem bad33 (ts:List Int):puN (k + 3) 33 [seaI n l,slI 0 ts] = some (tup2 nilS (IV (checkI n l))):=by
 rw [p33']
 show oo (puN (k + 2) 61 [.agg ⟨[IV n,slI 0 l]⟩]) none _ = _
 rw [pu_opened_bad k 0 hl h,oo_some]
 show bb (nt (ieq (checkI n l) 0)) _ _ = _
 rw [chk_ne h];rfl
theorem bad28:puN (k + 3) 28 [seaI n l] = some (tup2 nilS (IV (checkI n l))):=by
 rw [p28]
 show oo (puN (k + 2) 26 [.agg ⟨[IV n,slI 0 l]⟩]) none _ = _
 rw [pu_check26 k 0 n hl,oo_some]
 show bb (nt (ieq (checkI n l) 0)) _ _ = _
 rw [chk_ne h];rfl
theorem bad30:puN (k + 3) 30 [seaI n l] = some (tup2 (IV 0) (IV (checkI n l))):=by
 rw [p30]
 show oo (puN (k + 2) 26 [.agg ⟨[IV n,slI 0 l]⟩]) none _ = _
 rw [pu_check26 k 0 n hl,oo_some]
 show bb (nt (ieq (checkI n l) 0)) _ _ = _
 rw [chk_ne h];rfl
theorem bad32:puN (k + 3) 32 [seaI n l] = some (tup2 (.bool false) (IV (checkI n l))):=by
 rw [p32]
 show oo (puN (k + 2) 26 [.agg ⟨[IV n,slI 0 l]⟩]) none _ = _
 rw [pu_check26 k 0 n hl,oo_some]
 show bb (nt (ieq (checkI n l) 0)) _ _ = _
 rw [chk_ne h];rfl
theorem bad34 (ts:List Int):puN (k + 3) 34 [seaI n l,slI 0 ts] = some (tup2 nilS (IV (checkI n l))):=by
 rw [p34]
 show oo (puN (k + 2) 26 [.agg ⟨[IV n,slI 0 l]⟩]) none _ = _
 rw [pu_check26 k 0 n hl,oo_some]
 show bb (nt (ieq (checkI n l) 0)) _ _ = _
 rw [chk_ne h];rfl
end
theorem same_nil (k:Nat):puN (k + 1) 23 [nilS,nilS] = some (.bool true):=by
 have:=pu_same k 2 2 (a:=[]) (b:=[]) (by simp)
 rw [decide_eq_true rfl] at this;exact this
theorem dist_tail (pu : PureF) (h14 : pu 14 [] = some (.bool true)) {n : Int} {l ts : List Int} {A C : Sl} {d : Int} {b : Bool} (e1 e2 e3 e4 : Int)
 (h27:pu 27 [seaI n l] = some (tup2 (Sl.v 1 A) (IV e1))) (h28:pu 28 [seaI n l] = some (tup2 (Sl.v 1 A) (IV e1))) (h29:pu 29 [seaI n l] = some (tup2 (IV d) (IV e2))) (h30:pu 30 [seaI n l] = some (tup2 (IV d) (IV e2)))
 (h31:pu 31 [seaI n l] = some (tup2 (.bool b) (IV e3))) (h32:pu 32 [seaI n l] = some (tup2 (.bool b) (IV e3))) (h33:pu 33 [seaI n l,slI 0 ts] = some (tup2 (Sl.v 1 C) (IV e4))) (h34:pu 34 [seaI n l,slI 0 ts] = some (tup2 (Sl.v 1 C) (IV e4)))
 (hA:pu 23 [Sl.v 1 A,Sl.v 1 A] = some (.bool true)) (hC:pu 23 [Sl.v 1 C,Sl.v 1 C] = some (.bool true)):m4_0 pu L ⟨ts.length,0,iLI ts⟩ false n ⟨l.length,0,iLI l⟩ = some (.bool true):=by
 have er:∀ z:Int,ieq z z = true:=fun z=>by rw [ieq_eq];simp
 unfold m4_0
 rw [bb_false]
 show oo (pu 27 [seaI n l]) none _ = _
 rw [h27,oo_some]
 show oo (pu 28 [seaI n l]) none _ = _
 rw [h28,oo_some]
 show oo (pu 29 [seaI n l]) none _ = _
 rw [h29,oo_some]
 show oo (pu 30 [seaI n l]) none _ = _
 rw [h30,oo_some]
 show oo (pu 31 [seaI n l]) none _ = _
 rw [h31,oo_some]
 show oo (pu 32 [seaI n l]) none _ = _
 rw [h32,oo_some]
 show oo (pu 33 [seaI n l,slI 0 ts]) none _ = _
 rw [h33,oo_some]
 show oo (pu 34 [seaI n l,slI 0 ts]) none _ = _
 rw [h34,oo_some]
 show oo (pu 23 [Sl.v 1 A,Sl.v 1 A]) none _ = _
 rw [hA,oo_some]
 show bb true (bb (ieq e1 e1) (bb (ieq d d) (bb (ieq e2 e2) (bb (bq true (bq b b)) (bb (ieq e3 e3) (oo (pu 23 [Sl.v 1 C,Sl.v 1 C]) none fun v1468=>(oo (vBool v1468) none fun b1470=>(bb b1470 (bb (ieq e4 e4) (oo (pu 14 []) none fun v1474=>(oo (vBool v1474) none fun b1476=>(m4_1 pu L b1476))) (m4_1 pu L false)) (m4_1 pu L false)))) (m4_1 pu L false)) (m4_1 pu L false)) (m4_1 pu L false)) (m4_1 pu L false)) (m4_1 pu L false)) (m4_1 pu L false) = _
 rw [er,er,er,er,er,hC,h14,show bq true (bq b b) = true from by cases b <;> rfl];rfl
theorem dist_law (pu : PureF) (hpu : ∀ g, Nat.beq g 14 = false → pu g = puN 10 g) (h14 : pu 14 [] = some (.bool true)) (n : Int) (l ts : List Int) :
 m4 pu L [.agg ⟨[IV n,slI 0 l]⟩,slI 0 ts] = some (.bool true):=by
 show m4_ pu L n ⟨l.length,0,iLI l⟩ ⟨ts.length,0,iLI ts⟩ = _
 have hw:m4_0 pu L ⟨ts.length,0,iLI ts⟩ true n ⟨l.length,0,iLI l⟩ = some (.bool true):=by
  unfold m4_0
  rw [bb_true,h14];rfl
 show bb (ilt (Int.ofNat 40) (Int.ofNat l.length)) (m4_0 pu L ⟨ts.length,0,iLI ts⟩ true n ⟨l.length,0,iLI l⟩) (m4_0 pu L ⟨ts.length,0,iLI ts⟩ (ilt (Int.ofNat 40) (Int.ofNat ts.length)) n ⟨l.length,0,iLI l⟩) = _
 rw [ilt_nat,ilt_nat,blt_eq,blt_eq]
 by_cases h1:40 < l.length
 ·rw [decide_eq_true h1,bb_true,hw]
 ·rw [decide_eq_false h1, bb_false]
  by_cases h2:40 < ts.length
  ·rw [decide_eq_true h2,hw]
  ·rw [decide_eq_false h2]
   by_cases hc:checkI n l = 0
   ·obtain ⟨m, q, rfl, rfl, a1, a2, a3, a4, a5⟩ := checkI_inv hc
    have hg:Good m q:=⟨a1,a2,a3,a4,a5⟩
    have hd:=dists_len m q
    have hcl:=marks_len (n:=m) (s:=comN m (bitsOf q) ts (bitsOf q))
    refine dist_tail pu h14 (A:=⟨(dists m q).length,0,vL (dists m q)⟩) (C:=⟨(marksN m (comN m (bitsOf q) ts (bitsOf q))).length,0,vL (marksN m (comN m (bitsOf q) ts (bitsOf q)))⟩) 0 (bif Nat.blt 0 (firstD m q) then 13 else 0) 0 0 ?_ ?_ ?_ ?_ ?_ ?_ ?_ ?_ ?_ ?_ (d:=Int.ofNat (firstD m q)) (b:=perfD m q)
    ·rw [←sea_seaI,hpu 27 rfl];exact pu_distances 5 0 hg
    ·rw [←sea_seaI,hpu 28 rfl];exact pu_dist28 7 0 hg
    ·rw [←sea_seaI,hpu 29 rfl];exact pu_narrow 5 0 hg
    ·rw [←sea_seaI,hpu 30 rfl];exact pu_nar30 6 0 hg
    ·rw [←sea_seaI,hpu 31 rfl];exact pu_perfect 4 0 hg
    ·rw [←sea_seaI,hpu 32 rfl];exact pu_perf32 6 0 hg
    ·rw [←sea_seaI,hpu 33 rfl];exact pu_common2 7 0 0 hg (by omega)
    ·rw [←sea_seaI,hpu 34 rfl];exact pu_common34 7 0 0 hg (by omega)
    ·rw [hpu 23 rfl]
     have:=pu_sameN 9 (a:=dists m q) (b:=dists m q) (by omega)
     rw [decide_eq_true rfl] at this;exact this
    ·rw [hpu 23 rfl]
     have:=pu_sameN 9 (a:=marksN m (comN m (bitsOf q) ts (bitsOf q))) (b:=marksN m (comN m (bitsOf q) ts (bitsOf q))) (by omega)
     rw [decide_eq_true rfl] at this;exact this
   ·have hl : l.length < 900000 := by omega
    refine dist_tail pu h14 (A:=⟨0,2,[]⟩) (C:=⟨0,2,[]⟩) (checkI n l) (checkI n l) (checkI n l) (checkI n l) ?_ ?_ ?_ ?_ ?_ ?_ ?_ ?_ ?_ ?_ (d:=0) (b:=false)
    ·rw [hpu 27 rfl];exact bad27 7 hl hc
    ·rw [hpu 28 rfl];exact bad28 7 hl hc
    ·rw [hpu 29 rfl];exact bad29 7 hl hc
    ·rw [hpu 30 rfl];exact bad30 7 hl hc
    ·rw [hpu 31 rfl];exact bad31 7 hl hc
    ·rw [hpu 32 rfl];exact bad32 7 hl hc
    ·rw [hpu 33 rfl];exact bad33 7 hl hc ts
    ·rw [hpu 34 rfl];exact bad34 7 hl hc ts
    ·rw [hpu 23 rfl];exact same_nil 9
    ·rw [hpu 23 rfl];exact same_nil 9
end Go.RgP
