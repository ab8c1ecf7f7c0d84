/- Words. -/
import Derived.Test.YtenlanbdolnhhaaRgCT3x

set_option maxRecDepth 100000
set_option maxHeartbeats 4000000
namespace Go.RgP
open Go Go.Sp Go.RgCM
noncomputable def slv (l:List Nat):Value:=Sl.v 1 ⟨l.length,0,vL l⟩
def U (s:Nat):Value:=.int .u32 (Int.ofNat s)
noncomputable def seaV (n:Nat) (l:List Nat):Value:=.agg ⟨[IV (Int.ofNat n),slv l]⟩
theorem vL_snoc (q:List Nat) (p:Nat):appL (dropL 0 (vL q)) [.int .i64 (Int.ofNat p)] = vL (q ++ [p]):=by
 rw [appL_eq,dropL_eq,List.drop_zero];unfold vL;rw [List.map_append];rfl
theorem grow_vL {q:List Nat} {c:Nat} (hq:q.length≤2000) (hc:c / 2 = q.length) (hc2:c % 2 = 0):growC 1 8 q.length c 1 (vL q) = true:=by
 unfold growC roomy
 rw [len_eq,vL_len,hc,hc2]
 rw [show Nat.ble ((4 * (q.length + 1) + 4096) * 8) 281474976710656 = true from Nat.ble_eq_true_of_le (by omega),show Nat.ble (q.length + 1) q.length = false from by rw [ble_eq];simp,show Nat.ble (0 + q.length * 1) q.length = true from Nat.ble_eq_true_of_le (by omega),show Nat.beq (0 + q.length * 1) q.length = true from by simp]
 rfl
theorem fin_vL (q:List Nat):bb (an (Nat.ble (0 + q.length * 1) (len (vL q))) (allL closed1 (takeL (q.length * 1) (dropL 0 (vL q))))) (some (Sl.v 1 (Sl.mk q.length 0 (takeL (q.length * 1) (dropL 0 (vL q)))))) none = some (slv q):=by
 have e1:takeL (q.length * 1) (dropL 0 (vL q)) = vL q:=by
  rw [takeL_eq,dropL_eq,List.drop_zero,Nat.mul_one,←vL_len q,List.take_length]
 rw [e1,vL_closed,len_eq,vL_len,show Nat.ble (0 + q.length * 1) q.length = true from Nat.ble_eq_true_of_le (by omega)];rfl
theorem rem2 {n:Nat} (hn:0 < n) (hn2:n < 1000) {x:Int} (h1:-1000000000 < x) (h2:x < 1000000000):Int.tmod (wrapF .i64 (Int.add (Int.tmod (wrapF .i64 x) (Int.ofNat n)) (Int.ofNat n))) (Int.ofNat n) = Int.ofNat (plc n x):=by
 rw [wrapI x (by omega) (by omega)]
 show Int.tmod (wrapF .i64 (Int.tmod x (n:Int) + (n:Int))) (n:Int) = ((plc n x:Nat):Int)
 have hp:(0:Int) < (n:Int):=by omega
 have g1:=Int.tmod_lt_of_pos x hp
 have g2:-(n:Int) < Int.tmod x n:=by
  have:=Int.lt_tmod_of_pos x hp;omega
 rw [wrapI _ (by omega) (by omega),Int.tmod_eq_emod_of_nonneg (by omega),plc_cast hn]
 have h3:Int.tmod x (n:Int) + (n:Int) = x + (n:Int) * (1 - Int.tdiv x n):=by
  have:=Int.mul_tdiv_add_tmod x (n:Int)
  rw [Int.mul_sub];omega
 rw [h3,Int.add_mul_emod_self_left]
theorem marks_len {n s:Nat}:(marksN n s).length≤n:=markF_len s n 0
def iLI (l:List Int):List Value:=l.map IV
theorem vL_iLI (l:List Nat):vL l = iLI (l.map Int.ofNat):=by unfold vL iLI;rw [List.map_map];rfl
theorem iLI_get {l:List Int} {i:Nat} {b:Int} {r:List Int} (h:l.drop i = b :: r):nthL (iLI l) (i * 1) = some (IV b):=by
 rw [nthL_eq,Nat.mul_one]
 have:l[i]? = some b:=by
  have:=congrArg List.head? h
  rw [List.head?_drop] at this;exact this
 unfold iLI
 rw [List.getElem?_map,this];rfl
theorem dropI_next {l:List Int} {i:Nat} {b:Int} {r:List Int} (h:l.drop i = b :: r):l.drop (i + 1) = r∧i < l.length∧b ∈ l:=by
 refine ⟨?_,?_,?_⟩
 ·rw [←List.drop_drop,h];rfl
 ·have := congrArg List.length h
  simp at this;omega
 ·have : b ∈ l.drop i := by rw [h]; exact List.mem_cons_self
  exact List.mem_of_mem_drop this
noncomputable def chk (n : Int) : List Int → Int → Int
 | [],_=>0
 | m :: r,last=>bif ilt m 0 then 2 else bif nt (ilt m n) then 2 else bif nt (ilt last m) then 7 else chk n r m
noncomputable def checkI (n:Int) (l:List Int):Int:=bif ilt n 1 then 1 else bif ilt 21 n then 1 else bif Nat.blt 6 l.length then 3 else chk n l (-1)
noncomputable def slI (f:Nat) (l:List Int):Value:=Sl.v 1 ⟨l.length,f,iLI l⟩
theorem slv_slI (l:List Nat):slv l = slI 0 (l.map Int.ofNat):=by unfold slv slI;rw [vL_iLI,List.length_map]
theorem map_ofNat_inj {a b:List Nat}:a.map Int.ofNat = b.map Int.ofNat↔a = b:=by
 constructor
 ·intro h
  have:=congrArg (List.map Int.toNat) h
  simpa [List.map_map,Function.comp_def] using this
 ·rintro rfl;rfl
theorem chk_ok {n : Nat} : ∀ {m : List Nat} {last : Int}, -1 ≤ last → m.Pairwise (· < ·) → (∀ x ∈ m, x < n) → (∀ x ∈ m, last < (x : Int)) → chk (Int.ofNat n) (m.map Int.ofNat) last = 0
 | [],_,_,_,_,_=>rfl
 | x :: m, last, hl, h1, h2, h3 => by
  obtain ⟨p1,p2⟩:=List.pairwise_cons.1 h1
  have a1:=h2 x List.mem_cons_self
  have a2:=h3 x List.mem_cons_self
  show (bif ilt (x:Int) 0 then (2:Int) else bif nt (ilt (x:Int) (n:Int)) then 2 else bif nt (ilt last (x:Int)) then 7 else chk (Int.ofNat n) (m.map Int.ofNat) (x:Int)) = 0
  rw [ilt_eq,ilt_eq,ilt_eq,decide_eq_false (show ¬ (x:Int) < 0 by omega),decide_eq_true (show (x:Int) < (n:Int) by omega),decide_eq_true a2]
  exact chk_ok (by omega) p2 (fun y hy=>h2 y (List.mem_cons_of_mem _ hy)) fun y hy=>by have:=p1 y hy;omega
theorem checkI_ok {n:Nat} {m:List Nat} (hn0:0 < n) (hn:n≤21) (hl:m.length≤6) (h1:m.Pairwise (· < ·)) (h2:∀ x ∈ m,x < n):checkI (Int.ofNat n) (m.map Int.ofNat) = 0:=by
 show (bif ilt (Int.ofNat n) (Int.ofNat 1) then (1:Int) else bif ilt (Int.ofNat 21) (Int.ofNat n) then 1 else bif Nat.blt 6 (m.map Int.ofNat).length then 3 else chk (Int.ofNat n) (m.map Int.ofNat) (-1)) = 0
 rw [ilt_nat,ilt_nat,blt_eq,blt_eq,blt_eq,List.length_map,decide_eq_false (by omega),decide_eq_false (by omega),decide_eq_false (by omega)]
 exact chk_ok (last:=-1) (Int.le_refl _) h1 h2 fun x _=>by omega
def bitsOf (l:List Nat):Nat:=setOf (fun p=>p) l 0
theorem bitsOf_bit (l:List Nat) (q:Nat):(bitsOf l).testBit q = decide (q ∈ l):=by
 unfold bitsOf
 rw [setOf_bit,Nat.zero_testBit,Bool.false_or,Bool.eq_iff_iff]
 simp only [List.any_eq_true,decide_eq_true_eq]
 exact ⟨fun ⟨p,hp,e⟩=>e ▸ hp,fun h=>⟨q,h,rfl⟩⟩
theorem bitsOf_lt {n:Nat} {l:List Nat} (h:∀ x ∈ l,x < n):bitsOf l < 2 ^ n:=setOf_lt _ (Nat.two_pow_pos n) h
theorem marks_bitsOf {n:Nat} (hn:n≤31) {l:List Nat} (h1:l.Pairwise (· < ·)) (h2:∀ x ∈ l,x < n):marksN n (bitsOf l) = l:=by
 have h:=lt32 hn (bitsOf_lt h2)
 refine sorted_ext (marks_sorted h) h1 fun x=>?_
 rw [mem_marks h,bitsOf_bit,decide_eq_true_eq]
 exact ⟨fun h=>h.2,fun h=>⟨h2 x h,h⟩⟩
theorem bitsOf_marks {n s:Nat} (hn:n≤31) (hs:s < 2 ^ n):bitsOf (marksN n s) = s:=by
 have hs32:=lt32 hn hs
 refine set_ext (n:=n) (bitsOf_lt fun x hx=>((mem_marks hs32).1 hx).1) hs fun q hq=>?_
 rw [bitsOf_bit,Bool.eq_iff_iff,decide_eq_true_eq,mem_marks hs32]
 exact ⟨fun h=>h.2,fun h=>⟨hq,h⟩⟩
noncomputable def tup2 (a b:Value):Value:=.tuple ⟨[a,b]⟩
structure Good (n:Nat) (l:List Nat):Prop where
 pos:0 < n
 le:n≤21
 few:l.length≤6
 up:l.Pairwise (· < ·)
 lt:∀ x ∈ l,x < n
noncomputable def seaF (n f:Nat) (l:List Nat):Value:=.agg ⟨[IV (Int.ofNat n),Sl.v 1 ⟨l.length,f,vL l⟩]⟩
theorem dists_len (n:Nat) (l:List Nat):(dists n l).length = n - 1:=by unfold dists;simp
theorem dists_get {n:Nat} {l:List Nat} {i:Nat} (hi:i < n - 1):(dists n l)[i]? = some (cntD n l (i + 1)):=by unfold dists;simp [hi]
theorem Good.lt32 {n:Nat} {l:List Nat} (h:Good n l):bitsOf l < 4294967296:=Go.RgP.lt32 (n:=n) (by have:=h.le;omega) (bitsOf_lt h.lt)
theorem Good.marks {n:Nat} {l:List Nat} (h:Good n l):marksN n (bitsOf l) = l:=marks_bitsOf (by have:=h.le;omega) h.up h.lt
theorem pu_dists (k:Nat) {n:Nat} {l:List Nat} (h:Good n l):puN (k + 4) 74 [tv n (bitsOf l)] = some (slv (dists n l)):=by
 have h2:=h.le
 have:=pu_dist k (n:=n) (s:=bitsOf l) h.pos (by omega)
 rw [distN_eq h.lt32,h.marks] at this
 rw [this];unfold slv;rw [dists_len]
end Go.RgP
set_option maxRecDepth 100000
set_option maxHeartbeats 2000000
namespace Go.RgP
open Go Go.Sp
def lexB : List Nat → List Nat → Bool
 | [],[]=>false
 | [],_ :: _=>true
 | _ :: _,[]=>false
 | x :: a,y :: b=>bif Nat.beq x y then lexB a b else Nat.blt x y
theorem lexB_cons (x y:Nat) (a b:List Nat):lexB (x :: a) (y :: b) = (bif Nat.beq x y then lexB a b else Nat.blt x y):=rfl
theorem lexB_irr : ∀ a : List Nat, lexB a a = false
 | []=>rfl
 | x :: a=>by rw [lexB_cons,Nat.beq_refl];exact lexB_irr a
theorem lexB_trans : ∀ {a b c : List Nat}, lexB a b = true → lexB b c = true → lexB a c = true
 | [],[],_,h,_=>by cases h
 | [],_ :: _,[],_,h=>by cases h
 | [],_ :: _,_ :: _,_,_=>rfl
 | _ :: _,[],_,h,_=>by cases h
 | _ :: _,_ :: _,[],_,h=>by cases h
 | x :: a, y :: b, z :: c, h, h' => by
  rw [lexB_cons,beq_dec,blt_eq] at *
  by_cases h1:x = y
  ·by_cases h2 : y = z
   ·rw [decide_eq_true h1] at h; rw [decide_eq_true h2] at h'
    rw [decide_eq_true (h1.trans h2)]
    exact lexB_trans (show lexB a b = true from h) (show lexB b c = true from h')
   ·rw [decide_eq_false h2] at h'
    rw [decide_eq_false (by omega)]
    have:y < z:=of_decide_eq_true h'
    exact decide_eq_true (show x < z by omega)
  ·rw [decide_eq_false h1] at h
   have h3:x < y:=of_decide_eq_true h
   by_cases h2:y = z
   ·rw [decide_eq_false (show ¬ x = z by omega)]
    exact decide_eq_true (show x < z by omega)
   ·rw [decide_eq_false h2] at h'
    have h4:y < z:=of_decide_eq_true h'
    rw [decide_eq_false (show ¬ x = z by omega)]
    exact decide_eq_true (show x < z by omega)
theorem lexB_tot : ∀ {a b : List Nat}, lexB a b = false → lexB b a = false → a = b
 | [],[],_,_=>rfl
 | [],_ :: _,h,_=>by cases h
 | _ :: _,[],_,h=>by cases h
 | x :: a, y :: b, h, h' => by
  rw [lexB_cons,beq_dec,blt_eq] at *
  by_cases h1:x = y
  ·rw [decide_eq_true h1] at h; rw [decide_eq_true h1.symm] at h'
   rw [h1,lexB_tot (show lexB a b = false from h) (show lexB b a = false from h')]
  ·rw [decide_eq_false h1] at h; rw [decide_eq_false (Ne.symm h1)] at h'
   have h2:¬ x < y:=of_decide_eq_false h
   have h3:¬ y < x:=of_decide_eq_false h'
   omega
def minL (b:List Nat) (cs:List (List Nat)):List Nat:=cs.foldl (fun b c=>bif lexB c b then c else b) b
def LeastIn (S:List Nat→Prop) (x:List Nat):Prop:=S x∧∀ c,S c→lexB c x = false
theorem LeastIn.uniq {S:List Nat→Prop} {x y:List Nat} (h:LeastIn S x) (h':LeastIn S y):x = y:=lexB_tot (h'.2 x h.1) (h.2 y h'.1)
theorem minL_least : ∀ (cs : List (List Nat)) (b : List Nat), LeastIn (fun c => c = b ∨ c ∈ cs) (minL b cs)
 | [], b => ⟨.inl rfl, fun c h => by
  rcases h with rfl | h
  ·exact lexB_irr _
  ·cases h⟩
 | c :: cs, b => by
  have h:=minL_least cs (bif lexB c b then c else b)
  show LeastIn _ (minL (bif lexB c b then c else b) cs)
  have hall:∀ x,x = b∨x ∈ c :: cs→lexB x (minL (bif lexB c b then c else b) cs) = false:=by
   intro x hx
   have hb:lexB (bif lexB c b then c else b) (minL (bif lexB c b then c else b) cs) = false:=h.2 _ (.inl rfl)
   have key:∀ y,lexB (bif lexB c b then c else b) y = true∨y = (bif lexB c b then c else b)→lexB y (minL (bif lexB c b then c else b) cs) = false:=by
    intro y hy
    rcases hy with hy | rfl
    ·cases hlt : lexB y (minL (bif lexB c b then c else b) cs) with
     | false=>rfl
     | true=>have:=lexB_trans hy hlt;rw [hb] at this;cases this
    ·exact hb
   rcases hx with rfl | hx
   ·cases hc : lexB c x with
    | true=>exact hc ▸ key x (by rw [hc];exact .inl hc)
    | false=>exact hc ▸ key x (by rw [hc];exact .inr rfl)
   ·rcases List.mem_cons.1 hx with rfl | hx
    ·cases hc : lexB x b with
     | true=>exact hc ▸ key x (by rw [hc];exact .inr rfl)
     | false =>
      refine hc ▸ key x ?_
      rw [hc]
      cases hb2:lexB b x with
      | true=>exact .inl hb2
      | false=>exact .inr (lexB_tot hc hb2)
    ·exact h.2 x (.inr hx)
  refine ⟨?_,hall⟩
  rcases h.1 with h1 | h1
  ·rw [h1]
   cases lexB c b with
   | true=>exact .inr List.mem_cons_self
   | false=>exact .inl rfl
  ·exact .inr (List.mem_cons_of_mem _ h1)
def turnsOf (n s:Nat) (c:List Nat):Prop:=∃ b,b < n∧c = marksN n (turnN n s b)
noncomputable def minT (n s:Nat):List Nat:=minL (marksN n (turnN n s 0)) ((List.range (n - 1)).map fun i=>marksN n (turnN n s (i + 1)))
theorem minT_least {n s:Nat} (hn:0 < n):LeastIn (turnsOf n s) (minT n s):=by
 have h:=minL_least ((List.range (n - 1)).map fun i=>marksN n (turnN n s (i + 1))) (marksN n (turnN n s 0))
 have e:∀ c,turnsOf n s c↔(c = marksN n (turnN n s 0)∨c ∈ (List.range (n - 1)).map fun i=>marksN n (turnN n s (i + 1))):=fun c=>by
  constructor
  ·rintro ⟨b, hb, rfl⟩
   cases b with
   | zero=>exact .inl rfl
   | succ b=>exact .inr (List.mem_map.2 ⟨b,List.mem_range.2 (by omega),rfl⟩)
  ·rintro (rfl | h)
   ·exact ⟨0,hn,rfl⟩
   ·obtain ⟨i, hi, rfl⟩ := List.mem_map.1 h
    exact ⟨i + 1,by have:=List.mem_range.1 hi;omega,rfl⟩
 exact ⟨(e _).2 h.1,fun c hc=>h.2 c ((e c).1 hc)⟩
theorem turn_zero {n s:Nat} (hn0:0 < n) (hn:n≤31) (hs:s < 2 ^ n):turnN n s 0 = s:=by
 refine set_ext turn_lt hs fun q hq=>?_
 rw [turn_bit hn hs hn0,decide_eq_true hq,Bool.true_and,Nat.sub_zero,Nat.add_mod_right,Nat.mod_eq_of_lt hq]
theorem turn_turn {n s a b:Nat} (hn:n≤31) (hs:s < 2 ^ n) (ha:a < n) (hb:b < n):turnN n (turnN n s a) b = turnN n s ((a + b) % n):=by
 refine set_ext turn_lt turn_lt fun q hq=>?_
 have h1:(q + (n - b)) % n < n:=Nat.mod_lt _ (by omega)
 rw [turn_bit hn turn_lt hb,turn_bit hn hs ha,turn_bit hn hs (Nat.mod_lt _ (by omega)),decide_eq_true hq,decide_eq_true h1,Bool.true_and,Bool.true_and,Bool.true_and]
 congr 1
 have e1:(q + (n - b)) % n = if b≤q then q - b else q + (n - b):=by
  split
  ·rw [show q + (n - b) = (q - b) + n by omega,Nat.add_mod_right,Nat.mod_eq_of_lt (by omega)]
  ·exact Nat.mod_eq_of_lt (by omega)
 rw [mod_add ha hb,e1]
 have h2:∀ x y:Nat,x < n + n→y < n + n→(x = y∨x = y + n∨y = x + n)→x % n = y % n:=by
  intro x y _ _ h
  rcases h with rfl | rfl | rfl
  ·rfl
  ·rw [Nat.add_mod_right]
  ·rw [Nat.add_mod_right]
 apply h2 <;> (repeat' split) <;> omega
theorem moved_turn {n:Nat} (hn0:0 < n) (hn:n≤31) (l:List Nat) (m b:Int):setOf (fun p=>plc n ((p:Int) * m + b)) l 0 = turnN n (setOf (fun p=>plc n ((p:Int) * m)) l 0) (plc n b):=by
 have hb:=plc_lt hn0 b
 have h1:setOf (fun p=>plc n ((p:Int) * m)) l 0 < 2 ^ n:=setOf_lt _ (Nat.two_pow_pos n) fun p _=>plc_lt hn0 _
 refine set_ext (setOf_lt _ (Nat.two_pow_pos n) fun p _=>plc_lt hn0 _) turn_lt fun q hq=>?_
 rw [setOf_bit,Nat.zero_testBit,Bool.false_or,turn_bit hn h1 hb,decide_eq_true hq,Bool.true_and,setOf_bit,Nat.zero_testBit,Bool.false_or]
 refine List.any_congr rfl fun p=>?_
 refine decide_eq_decide.2 ?_
 rw [plc_add hn0]
 have hp:=plc_lt hn0 ((p:Int) * m)
 generalize plc n ((p:Int) * m) = a at *
 generalize plc n b = d at *
 by_cases h0:d = 0
 ·subst h0
  rw [Nat.add_zero,Nat.sub_zero,Nat.add_mod_right,Nat.mod_eq_of_lt hp,Nat.mod_eq_of_lt hq]
 ·constructor
  ·rintro rfl;rw [add_back hp (by omega) hb]
  ·rintro rfl;rw [back_add hq (by omega) hb]
def reachN (n s o:Nat):Option Nat:=(List.range n).find? fun b=>Nat.beq (turnN n s b) o
end Go.RgP
set_option maxRecDepth 100000
set_option maxHeartbeats 2000000
namespace Go.RgP
open Go Go.Sp
theorem injC {n m:Nat} (hn:0 < n) (hg:Nat.gcd m n = 1) {x y:Nat} (hx:x < n) (hy:y < n) (h:plc n ((x:Int) * (m:Int) + 0) = plc n ((y:Int) * (m:Int) + 0)):x = y:=by
 have e:∀ z:Nat,plc n ((z:Int) * (m:Int) + 0) = (z * m) % n:=fun z=>by
  rw [Int.add_zero,←Int.natCast_mul,plc_nat]
 rw [e,e] at h
 have hc:Nat.Coprime n m:=by show Nat.gcd n m = 1;rw [Nat.gcd_comm];exact hg
 have key:∀ a b:Nat,a≤b→b < n→(b * m) % n = (a * m) % n→b = a:=fun a b hab hb hh=>by
  have h1:=Nat.sub_mod_eq_zero_of_mod_eq hh
  rw [←Nat.sub_mul] at h1
  have h2:n ∣ b - a:=hc.dvd_of_dvd_mul_right (Nat.dvd_of_mod_eq_zero h1)
  rcases Nat.eq_zero_or_pos (b - a) with h3 | h3
  ·omega
  ·have:=Nat.le_of_dvd h3 h2;omega
 rcases Nat.le_total x y with hxy | hxy
 ·exact (key x y hxy hy h.symm).symm
 ·exact key y x hxy hx h
theorem marks_inj {n s t:Nat} (hn:n≤31) (hs:s < 2 ^ n) (ht:t < 2 ^ n) (h:marksN n s = marksN n t):s = t:=by
 rw [←bitsOf_marks hn hs,h,bitsOf_marks hn ht]
theorem turn_back {n s a:Nat} (hn:n≤31) (hs:s < 2 ^ n) (ha:a < n):turnN n (turnN n s a) ((n - a) % n) = s:=by
 have h0:0 < n:=by omega
 rw [turn_turn hn hs ha (Nat.mod_lt _ h0)]
 have:(a + (n - a) % n) % n = 0:=by
  by_cases h:a = 0
  ·subst h;rw [Nat.sub_zero,Nat.mod_self,Nat.zero_mod]
  ·rw [Nat.mod_eq_of_lt (show n - a < n by omega),show a + (n - a) = n by omega,Nat.mod_self]
 rw [this,turn_zero h0 hn hs]
theorem minT_turn {n s a:Nat} (hn:n≤31) (hs:s < 2 ^ n) (ha:a < n):minT n (turnN n s a) = minT n s:=by
 have h0:0 < n:=by omega
 refine LeastIn.uniq (S:=turnsOf n s) ?_ (minT_least h0)
 have h:=minT_least (s:=turnN n s a) h0
 have hto:∀ c,turnsOf n s c→turnsOf n (turnN n s a) c:=by
  rintro c ⟨b,hb,rfl⟩
  refine ⟨((n - a) % n + b) % n,Nat.mod_lt _ h0,?_⟩
  rw [←turn_turn hn turn_lt (Nat.mod_lt _ h0) hb,turn_back hn hs ha]
 refine ⟨?_,fun c hc=>h.2 c (hto c hc)⟩
 obtain ⟨b,hb,e⟩:=h.1
 exact ⟨(a + b) % n,Nat.mod_lt _ h0,by rw [e,turn_turn hn hs ha hb]⟩
theorem reach_iff {n s t:Nat} (hn:n≤31) (h0:0 < n) (hs:s < 2 ^ n) (ht:t < 2 ^ n):(reachN n t s).isSome = decide (minT n t = minT n s):=by
 rw [Bool.eq_iff_iff,decide_eq_true_eq]
 unfold reachN
 rw [List.find?_isSome]
 constructor
 ·rintro ⟨b, hb, h⟩
  have hb:=List.mem_range.1 hb
  have h:turnN n t b = s:=Nat.eq_of_beq_eq_true h
  rw [←h,minT_turn hn ht hb]
 ·intro h
  obtain ⟨a,ha,e1⟩:=(minT_least (s:=t) h0).1
  obtain ⟨b,hb,e2⟩:=(minT_least (s:=s) h0).1
  have e:=marks_inj hn turn_lt turn_lt (e1.symm.trans (h.trans e2))
  refine ⟨(a + (n - b) % n) % n,List.mem_range.2 (Nat.mod_lt _ h0),?_⟩
  have hb2:(n - b) % n < n:=Nat.mod_lt _ h0
  rw [←turn_turn hn ht ha hb2,e,turn_back hn hs hb,Nat.beq_refl]
theorem cntD_perm {n:Nat} {l l':List Nat} (h:l.Perm l') (d:Nat):cntD n l d = cntD n l' d:=by
 unfold cntD
 have e:(fun a=>decide ((a + d) % n ∈ l)) = fun a=>decide ((a + d) % n ∈ l'):=by
  funext a
  exact decide_eq_decide.2 h.mem_iff
 rw [e];exact h.countP_eq _
theorem setOf_few (f:Nat→Nat) {n:Nat} (hn:n≤31) {l:List Nat} (h:∀ x ∈ l,f x < n):(marksN n (setOf f l 0)).length≤l.length:=by
 have hz:=lt32 hn (setOf_lt f (l:=l) (Nat.two_pow_pos n) h)
 have:=List.Nodup.length_le_of_subset (nodup_of_lt (marks_sorted (n:=n) hz)) (l₂:=l.map f) fun x hx=>by
  have:=((mem_marks hz).1 hx).2
  rw [setOf_bit,Nat.zero_testBit,Bool.false_or] at this
  obtain ⟨a,ha,e⟩:=List.any_eq_true.1 this
  exact List.mem_map.2 ⟨a,ha,of_decide_eq_true e⟩
 rw [List.length_map] at this;exact this
theorem good_marks {n t:Nat} (h0:0 < n) (hn:n≤21) (ht:t < 2 ^ n) (hf:(marksN n t).length≤6):Good n (marksN n t):=by
 have h:=lt32 (n:=n) (by omega) ht
 exact ⟨h0,hn,hf,marks_sorted h,fun x hx=>((mem_marks h).1 hx).1⟩
end Go.RgP
set_option maxRecDepth 100000
set_option maxHeartbeats 4000000
namespace Go.RgP
open Go Go.Sp Go.RgCM
theorem tmodN (a d:Nat):ieq (Int.tmod (Int.ofNat a) (Int.ofNat d)) (0:Int) = Nat.beq (a % d) 0:=by
 have:Int.tmod (Int.ofNat a) (Int.ofNat d) = Int.ofNat (a % d):=by
  show Int.tmod (a:Int) (d:Int) = ((a % d:Nat):Int)
  rw [Int.tmod_eq_emod_of_nonneg (by omega),←Int.natCast_emod]
 rw [this];exact ieq_nat _ 0
theorem prime_loop (pu : PureF) (L : Nat) {a b : Nat} (ha : 0 < a) (hb : 0 < b) (ha2 : a < 1000) : ∀ (w d : Nat), a + 3 < w + d → 2 ≤ d → d ≤ a + 2 → (∀ e, 2 ≤ e → e < d → ¬ (e ∣ a ∧ e ∣ b)) →
 l89_1 pu L w (Int.ofNat a) (Int.ofNat b) (Int.ofNat d) = some (.bool (decide (Nat.gcd a b = 1)))
 | 0, d, hw, h2, hd, hno => by
  exfalso
  omega
 | w + 1, d, hw, h2, hd, hno => by
  show b89_1 pu L (l89_1 pu L w) (Int.ofNat a) (Int.ofNat b) (Int.ofNat d) = _
  have hmin:bb (ilt (Int.ofNat b) (Int.ofNat a)) (Int.ofNat b) (Int.ofNat a) = Int.ofNat (min a b):=by
   rw [ilt_nat,blt_eq]
   by_cases h:b < a
   ·rw [decide_eq_true h,bb_true,Nat.min_eq_right (by omega)]
   ·rw [decide_eq_false h,bb_false,Nat.min_eq_left (by omega)]
  have hne:ieq (Int.ofNat d) 0 = false:=by rw [show (0:Int) = Int.ofNat 0 from rfl,ieq_nat];exact beq_ne (by omega)
  unfold b89_1
  rw [hmin,ilt_nat,blt_eq]
  by_cases h:min a b < d
  ·rw [decide_eq_true h, show nt true = false from rfl, bb_false]
   have:Nat.gcd a b = 1:=by
    have h1:=Nat.gcd_dvd_left a b
    have h2':=Nat.gcd_dvd_right a b
    have h3:=Nat.le_of_dvd ha h1
    have h4:=Nat.le_of_dvd hb h2'
    have h5:0 < Nat.gcd a b:=Nat.gcd_pos_of_pos_left b ha
    refine Nat.le_antisymm (Nat.le_of_not_lt fun h6=>hno (Nat.gcd a b) h6 ?_ ⟨h1,h2'⟩) h5
    have:Nat.gcd a b≤min a b:=by omega
    omega
   rw [decide_eq_true this];rfl
  ·rw [decide_eq_false h, show nt false = true from rfl, bb_true, hne, show nt false = true from rfl, bb_true, bb_true, tmodN, tmodN]
   have hs:wrapF .i64 (Int.add (Int.ofNat d) 1) = Int.ofNat (d + 1):=wrapS d (by omega)
   have hdvd:∀ z,Nat.beq (z % d) 0 = decide (d ∣ z):=fun z=>by rw [beq_dec];exact decide_eq_decide.2 ⟨Nat.dvd_of_mod_eq_zero,Nat.mod_eq_zero_of_dvd⟩
   rw [hdvd,hdvd]
   have go:¬ (d ∣ a∧d ∣ b)→m89_2 pu L (l89_1 pu L w) (Int.ofNat a) (Int.ofNat b) (Int.ofNat d) false = some (.bool (decide (Nat.gcd a b = 1))):=fun hn=>by
    unfold m89_2
    rw [bb_false,hs]
    exact prime_loop pu L ha hb ha2 w (d + 1) (by omega) (by omega) (by omega) fun e e1 e2=>by
     by_cases he:e = d
     ·subst he;exact hn
     ·exact hno e e1 (by omega)
   by_cases h1:d ∣ a
   ·rw [decide_eq_true h1, bb_true]
    by_cases h3:d ∣ b
    ·rw [decide_eq_true h3]
     have:¬ Nat.gcd a b = 1:=fun e=>by
      have:=Nat.dvd_gcd h1 h3
      rw [e] at this
      have:=Nat.le_of_dvd (by omega) this
      omega
     rw [decide_eq_false this];rfl
    ·rw [decide_eq_false h3];exact go fun h=>h3 h.2
   ·rw [decide_eq_false h1,bb_false];exact go fun h=>h1 h.1
theorem p89 (k:Nat) (args:List Value):puN (k + 1) 89 args = m89 (puN k) L args:=by kernel_rfl
theorem pu_prime (k:Nat) {a b:Nat} (ha:0 < a) (hb:0 < b) (ha2:a < 1000):puN (k + 1) 89 [IV (Int.ofNat a),IV (Int.ofNat b)] = some (.bool (decide (Nat.gcd a b = 1))):=by
 rw [p89]
 exact prime_loop (puN k) L ha hb ha2 L 2 (by show _ < 1000000 + 2;omega) (by omega) (by omega) fun e e1 e2=>by omega
end Go.RgP
set_option maxRecDepth 100000
set_option maxHeartbeats 4000000
namespace Go.RgP
open Go Go.Sp Go.RgCM
theorem on_any (pu:PureF) (L n s:Nat) (x:Int) (hn:0 < n) (hn2:n < 1000):m62 pu L [tv n s,IV x] = some (IV (Int.ofNat (plc n x))):=by
 show m62_ pu L (Int.ofNat n) (Int.ofNat s) x = _
 unfold m62_
 have e:ieq (Int.ofNat n) 0 = false:=by rw [show (0:Int) = Int.ofNat 0 from rfl,ieq_nat];exact beq_ne (by omega)
 rw [e]
 show some (IV (Int.tmod (wrapF .i64 (Int.tmod x (n:Int) + (n:Int))) (n:Int))) = some (IV ((plc n x:Nat):Int))
 have hp:(0:Int) < (n:Int):=by omega
 have g1:=Int.tmod_lt_of_pos x hp
 have g2:-(n:Int) < Int.tmod x n:=by
  have:=Int.lt_tmod_of_pos x hp;omega
 rw [wrapI _ (by omega) (by omega),Int.tmod_eq_emod_of_nonneg (by omega),plc_cast hn]
 have h3:Int.tmod x (n:Int) + (n:Int) = x + (n:Int) * (1 - Int.tdiv x n):=by
  have:=Int.mul_tdiv_add_tmod x (n:Int)
  rw [Int.mul_sub];omega
 rw [h3,Int.add_mul_emod_self_left]
theorem pu_on2 (k:Nat) {n s:Nat} {x:Int} (hn:0 < n) (hn2:n≤60):puN (k + 1) 62 [tv n s,IV x] = some (IV (Int.ofNat (plc n x))):=by
 rw [p62];exact on_any (puN k) L n s x hn (by omega)
theorem p65 (k:Nat) (args:List Value):puN (k + 1) 65 args = m65 (puN k) L args:=by kernel_rfl
theorem pu_turned (k:Nat) {n s b:Nat} (hn:n≤21) (hs:s < 2 ^ n) (hb:b < n):puN (k + 1) 65 [tv n s,IV (Int.ofNat b)] = some (tv n (turnN n s b)):=by
 rw [p65]
 show m65_ (puN k) L (Int.ofNat n) (Int.ofNat s) (Int.ofNat b) = _
 unfold m65_
 have hs32:=lt32 (by omega) hs
 have e1:wrapF .i64 (Int.sub (Int.ofNat n) (Int.ofNat b)) = Int.ofNat (n - b):=by
  show wrapF .i64 ((n:Int) - (b:Int)) = ((n - b:Nat):Int)
  rw [wrapI _ (by omega) (by omega)];omega
 have e2:wrapF .u32 (Int.sub (shlI .u32 (1:Int) n) (1:Int)) = Int.ofNat (2 ^ n - 1):=by
  have h1:2 ^ n < 4294967296:=Nat.lt_of_le_of_lt (Nat.pow_le_pow_right (by omega) hn) (by decide)
  have h2:=Nat.two_pow_pos n
  rw [shl32 (by omega),show Int.sub (Int.ofNat (2 ^ n)) 1 = Int.ofNat (2 ^ n - 1) from by show ((2 ^ n:Nat):Int) - 1 = ((2 ^ n - 1:Nat):Int);omega]
  exact wrap32 (by omega)
 have e3:shlI .u32 (Int.ofNat s) b = Int.ofNat ((s * 2 ^ b) % 4294967296):=by
  show wrapF .u32 (Int.ofNat (s * 2 ^ (min b 32))) = _
  rw [Nat.min_eq_left (by omega)];rfl
 have h4:(s * 2 ^ b) % 4294967296 < 4294967296:=Nat.mod_lt _ (by omega)
 have h5:s / 2 ^ (n - b) < 4294967296:=Nat.lt_of_le_of_lt (Nat.div_le_self _ _) hs32
 have h6:(s * 2 ^ b) % 4294967296 ||| s / 2 ^ (n - b) < 4294967296:=Nat.or_lt_two_pow (n:=32) h4 h5
 have h7:2 ^ n - 1 < 4294967296:=by
  have h1:2 ^ n < 4294967296:=Nat.lt_of_le_of_lt (Nat.pow_le_pow_right (by omega) hn) (by decide)
  omega
 show oo (toN (wrapF .i64 (Int.sub (Int.ofNat n) (Int.ofNat b)))) none (fun k3348=>some (Value.agg ⟨[(.int .i64 (Int.ofNat n)),(.int .u32 (aand .u32 (aor .u32 (shlI .u32 (Int.ofNat s) b) (shrI .u32 (Int.ofNat s) k3348)) (wrapF .u32 (Int.sub (shlI .u32 (1:Int) n) (1:Int)))))]⟩)) = _
 rw [e1,show ∀ j,toN (Int.ofNat j) = some j from fun _=>rfl,oo_some,e2,e3,shr32 hs32,aor32 h4 h5,aand32 h6 h7];rfl
end Go.RgP
set_option maxRecDepth 100000
set_option maxHeartbeats 4000000
namespace Go.RgP
open Go Go.Sp Go.RgCM
theorem p66 (k:Nat) (args:List Value):puN (k + 1) 66 args = m66 (puN k) L args:=by kernel_rfl
theorem pu_seal (k:Nat) {n s:Nat} (hn:n≤60):puN (k + 3) 66 [tv n s] = some (seaF n 0 (marksN n s)):=by
 rw [p66]
 show oo (puN (k + 2) 80 [tv n s]) none _ = _
 rw [pu_marks k hn];rfl
noncomputable def reachV (o:Option Nat):Value:=match o with
 | none=>tup2 (IV 0) (.bool false)
 | some b=>tup2 (IV (Int.ofNat b)) (.bool true)
theorem reach_loop (k : Nat) {n s o : Nat} (hn : n ≤ 21) (hs : s < 2 ^ n) : ∀ (j w b : Nat), j < w → b + j = n →
 l70_1 (puN (k + 1)) L w (Int.ofNat n) (Int.ofNat b) (Int.ofNat n) (Int.ofNat s) (Int.ofNat n) (Int.ofNat o) = some (reachV ((List.range' b j).find? fun b=>Nat.beq (turnN n s b) o))
 | j,0,_,h,_=>by omega
 | 0, w + 1, b, _, hb => by
  show b70_1 (puN (k + 1)) L (l70_1 (puN (k + 1)) L w) (Int.ofNat n) (Int.ofNat b) (Int.ofNat n) (Int.ofNat s) (Int.ofNat n) (Int.ofNat o) = _
  unfold b70_1
  rw [ilt_nat,show Nat.blt b n = false from by rw [blt_eq];simp;omega];rfl
 | j + 1, w + 1, b, hw, hb => by
  show b70_1 (puN (k + 1)) L (l70_1 (puN (k + 1)) L w) (Int.ofNat n) (Int.ofNat b) (Int.ofNat n) (Int.ofNat s) (Int.ofNat n) (Int.ofNat o) = _
  have ih:=reach_loop k (o:=o) hn hs j w (b + 1) (by omega) (by omega)
  unfold b70_1
  rw [ilt_nat,show Nat.blt b n = true from by rw [blt_eq];simp;omega,bb_true]
  show oo (puN (k + 1) 65 [tv n s,IV (Int.ofNat b)]) none _ = _
  rw [pu_turned k hn hs (by omega),oo_some]
  show bb (bq true (an (ieq (Int.ofNat n) (Int.ofNat n)) (an (ieq (Int.ofNat (turnN n s b)) (Int.ofNat o)) true))) (some (tup2 (IV (Int.ofNat b)) (.bool true))) (l70_1 (puN (k + 1)) L w (Int.ofNat n) (wrapF .i64 (Int.add (Int.ofNat b) (1:Int))) (Int.ofNat n) (Int.ofNat s) (Int.ofNat n) (Int.ofNat o)) = _
  rw [ieq_nat,ieq_nat,Nat.beq_refl,wrapS b (by omega),ih,List.range'_succ]
  cases hc:Nat.beq (turnN n s b) o with
  | true=>rw [List.find?_cons_of_pos (p:=fun b=>Nat.beq (turnN n s b) o) hc];rfl
  | false=>rw [List.find?_cons_of_neg (p:=fun b=>Nat.beq (turnN n s b) o) (by rw [hc];simp)];rfl
theorem p70 (k:Nat) (args:List Value):puN (k + 1) 70 args = m70 (puN k) L args:=by kernel_rfl
theorem pu_reaches (k:Nat) {n s o:Nat} (hn:n≤21) (hs:s < 2 ^ n):puN (k + 2) 70 [tv n s,tv n o] = some (reachV (reachN n s o)):=by
 rw [p70]
 have h:=reach_loop k (o:=o) hn hs n L 0 (by show n < 1000000;omega) (by omega)
 rw [←List.range_eq_range'] at h
 exact h
theorem times_loop (k : Nat) {n s : Nat} (hn0 : 0 < n) (hn : n ≤ 21) {m : Int} (hm : -100 ≤ m) (hm2 : m ≤ 100) {l : List Nat} (hl : l.length ≤ 60) (hln : ∀ x ∈ l, x < n) (z1 z2 : Int) : ∀ (r : List Nat) (w i z : Nat), l.drop i = r → r.length < w → i ≤ l.length → z < 2 ^ n →
 l71_1 (puN (k + 1)) L w m ⟨l.length,0,vL l⟩ (Int.ofNat l.length) (Int.ofNat i) (Int.ofNat n) (Int.ofNat s) z1 z2 (Int.ofNat n) (Int.ofNat z) = some (tv n (setOf (fun p=>plc n ((p:Int) * m)) r z))
 | _,0,_,_,_,h,_,_=>by omega
 | [], w + 1, i, z, hd, _, hi, _ => by
  show b71_1 (puN (k + 1)) L (l71_1 (puN (k + 1)) L w) m ⟨l.length,0,vL l⟩ (Int.ofNat l.length) (Int.ofNat i) (Int.ofNat n) (Int.ofNat s) z1 z2 (Int.ofNat n) (Int.ofNat z) = _
  have:l.length≤i:=List.drop_eq_nil_iff.1 hd
  unfold b71_1
  rw [ilt_nat,show Nat.blt i l.length = false from by rw [blt_eq];simp;omega];rfl
 | p :: r, w + 1, i, z, hd, hw, hi, hz => by
  show b71_1 (puN (k + 1)) L (l71_1 (puN (k + 1)) L w) m ⟨l.length,0,vL l⟩ (Int.ofNat l.length) (Int.ofNat i) (Int.ofNat n) (Int.ofNat s) z1 z2 (Int.ofNat n) (Int.ofNat z) = _
  obtain ⟨hd2,hi2,hp⟩:=drop_next hd
  have hr:(p :: r).length = r.length + 1:=rfl
  have hlt:Nat.blt i l.length = true:=by rw [blt_eq];simp;omega
  have hpn:=hln p hp
  have hpl:=plc_lt hn0 ((p:Int) * m)
  have hk:2 ^ plc n ((p:Int) * m) < 2 ^ n:=Nat.pow_lt_pow_right (by omega) hpl
  have hz2:z ||| 2 ^ plc n ((p:Int) * m) < 2 ^ n:=Nat.or_lt_two_pow hz hk
  have ih:=times_loop k (s:=s) hn0 hn hm hm2 hl hln z1 z2 r w (i + 1) _ hd2 (by omega) (by omega) hz2
  have b1:-3200≤(p:Int) * m:=by
   have:(p:Int) * (-100)≤(p:Int) * m:=Int.mul_le_mul_of_nonneg_left hm (by omega)
   omega
  have b2:(p:Int) * m≤3200:=by
   have:(p:Int) * m≤(p:Int) * 100:=Int.mul_le_mul_of_nonneg_left hm2 (by omega)
   omega
  have e1:wrapF .i64 (Int.mul (Int.ofNat p) m) = (p:Int) * m:=wrapI _ (by show _≤(p:Int) * m;omega) (by show (p:Int) * m≤_;omega)
  unfold b71_1
  rw [ilt_nat,hlt,bb_true,show toN (Int.ofNat i) = some i from rfl,oo_some]
  show bb (an (Nat.blt i l.length) true) (oo (nthL (vL l) (i * 1)) none _) none = _
  rw [hlt,show an true true = true from rfl,bb_true,vL_get hd,oo_some,show ∀ z,toI .i64 (IV z) = some z from fun _=>rfl,oo_some,e1]
  show oo (puN (k + 1) 62 [tv n s,IV ((p:Int) * m)]) none _ = _
  rw [pu_on2 k hn0 (by omega),oo_some,show ∀ z,toI .i64 (IV z) = some z from fun _=>rfl,oo_some,show ∀ j,toN (Int.ofNat j) = some j from fun _=>rfl,oo_some,shl32 (by omega),aor32 (lt32 (by omega) hz) (lt32 (by omega) hk),wrapS i (by omega),ih];rfl
theorem p71 (k:Nat) (args:List Value):puN (k + 1) 71 args = m71 (puN k) L args:=by kernel_rfl
noncomputable def timesN (n s:Nat) (m:Int):Nat:=setOf (fun p=>plc n ((p:Int) * m)) (marksN n s) 0
theorem timesN_lt {n s:Nat} (hn0:0 < n) {m:Int}:timesN n s m < 2 ^ n:=setOf_lt _ (Nat.two_pow_pos n) fun p _=>plc_lt hn0 _
theorem pu_times (k:Nat) {n s:Nat} (hn0:0 < n) (hn:n≤21) (hs:s < 2 ^ n) {m:Int} (hm:-100≤m) (hm2:m≤100):puN (k + 3) 71 [tv n s,IV m] = some (tv n (timesN n s m)):=by
 have hs32:=lt32 (n:=n) (by omega) hs
 have hlen:=marks_len (n:=n) (s:=s)
 rw [p71]
 show oo (puN (k + 2) 80 [tv n s]) none _ = _
 rw [pu_marks k (by omega),oo_some]
 have h:=times_loop (k + 1) (s:=s) hn0 hn hm hm2 (l:=marksN n s) (by omega) (fun x hx=>((mem_marks hs32).1 hx).1) 0 0 (marksN n s) L 0 0 List.drop_zero (by show _ < 1000000;omega) (by omega) (Nat.two_pow_pos n)
 rw [show k + 1 + 1 = k + 2 from rfl] at h
 exact h
end Go.RgP
set_option maxRecDepth 100000
set_option maxHeartbeats 4000000
namespace Go.RgP
open Go Go.Sp Go.RgCM
theorem check_loop (pu : PureF) (L : Nat) {n : Int} {l : List Int} (hl : l.length < 900000) (f f' : Nat) (l' : List Value) (m' : Nat) : ∀ (r : List Int) (w i : Nat) (last : Int), l.drop i = r → r.length < w → i ≤ l.length →
 l25_2 pu L w last ⟨l.length,f,iLI l⟩ (Int.ofNat l.length) (Int.ofNat i) n ⟨m',f',l'⟩ = some (IV (chk n r last))
 | _,0,_,_,_,h,_=>by omega
 | [], w + 1, i, last, hd, _, hi => by
  show b25_2 pu L (l25_2 pu L w) last ⟨l.length,f,iLI l⟩ (Int.ofNat l.length) (Int.ofNat i) n ⟨m',f',l'⟩ = _
  have h1:l.length≤i:=List.drop_eq_nil_iff.1 hd
  unfold b25_2
  rw [ilt_nat,show Nat.blt i l.length = false from by rw [blt_eq];simp;omega];rfl
 | x :: r, w + 1, i, last, hd, hw, hi => by
  show b25_2 pu L (l25_2 pu L w) last ⟨l.length,f,iLI l⟩ (Int.ofNat l.length) (Int.ofNat i) n ⟨m',f',l'⟩ = _
  obtain ⟨hd2,hi2,_⟩:=dropI_next hd
  have hr:(x :: r).length = r.length + 1:=rfl
  have hlt:Nat.blt i l.length = true:=by rw [blt_eq];simp;omega
  have ih:=check_loop pu L (n:=n) hl f f' l' m' r w (i + 1) x hd2 (by omega) (by omega)
  unfold b25_2
  rw [ilt_nat,hlt,bb_true,show toN (Int.ofNat i) = some i from rfl,oo_some]
  show bb (an (Nat.blt i l.length) true) (oo (nthL (iLI l) (i * 1)) none _) none = _
  rw [hlt,show an true true = true from rfl,bb_true,iLI_get hd,oo_some,show ∀ z,toI .i64 (IV z) = some z from fun _=>rfl,oo_some]
  show bb (ilt x 0) (bb true (some (IV 2)) _) (bb (nt (ilt x n)) (some (IV 2)) (bb (nt (ilt last x)) (some (IV 7)) (l25_2 pu L w x ⟨l.length,f,iLI l⟩ (Int.ofNat l.length) (wrapF .i64 (Int.add (Int.ofNat i) (1:Int))) n ⟨m',f',l'⟩))) = some (IV (bif ilt x 0 then 2 else bif nt (ilt x n) then 2 else bif nt (ilt last x) then 7 else chk n r x))
  rw [wrapS i (by omega),ih]
  cases ilt x 0 <;> cases nt (ilt x n) <;> cases nt (ilt last x) <;> rfl
theorem p25 (k:Nat) (args:List Value):puN (k + 1) 25 args = m25 (puN k) L args:=by kernel_rfl
theorem pu_check (k f:Nat) (n:Int) {l:List Int} (hl:l.length < 900000):puN (k + 1) 25 [.agg ⟨[IV n,slI f l]⟩] = some (IV (checkI n l)):=by
 rw [p25]
 show bb (ilt n 1) (m25_0 (puN k) L true n ⟨l.length,f,iLI l⟩) (m25_0 (puN k) L (ilt 21 n) n ⟨l.length,f,iLI l⟩) = _
 have h:=check_loop (puN k) L (n:=n) hl f f (iLI l) l.length l L 0 (-1) List.drop_zero (by show _ < 1000000;omega) (by omega)
 have h0:∀ b,m25_0 (puN k) L b n ⟨l.length,f,iLI l⟩ = some (IV (bif b then 1 else bif Nat.blt 6 l.length then 3 else chk n l (-1))):=fun b=>by
  show bb b (some (IV 1)) (bb (ilt (6:Int) (Int.ofNat l.length)) (some (IV 3)) (l25_2 (puN k) L L (-1:Int) ⟨l.length,f,iLI l⟩ (Int.ofNat l.length) (0:Int) n ⟨l.length,f,iLI l⟩)) = _
  have h:l25_2 (puN k) L L (-1:Int) ⟨l.length,f,iLI l⟩ (Int.ofNat l.length) (0:Int) n ⟨l.length,f,iLI l⟩ = some (IV (chk n l (-1))):=h
  rw [h,show (6:Int) = Int.ofNat 6 from rfl,ilt_nat]
  cases b <;> cases Nat.blt 6 l.length <;> rfl
 rw [h0,h0]
 unfold checkI
 cases ilt n 1 <;> cases ilt 21 n <;> rfl
theorem made_loop (pu : PureF) (L n : Nat) {l : List Nat} (hl : ∀ x ∈ l, x < 31) (hl2 : l.length < 900000) (f : Nat) (a b : Int) : ∀ (r : List Nat) (w i z : Nat), l.drop i = r → r.length < w → i ≤ l.length → z < 2 ^ 31 →
 l96_1 pu L w ⟨l.length,f,vL l⟩ (Int.ofNat l.length) (Int.ofNat i) a b (Int.ofNat n) (Int.ofNat z) = some (tv n (setOf (fun p=>p) r z))
 | _,0,_,_,_,h,_,_=>by omega
 | [], w + 1, i, z, hd, _, hi, _ => by
  show b96_1 pu L (l96_1 pu L w) ⟨l.length,f,vL l⟩ (Int.ofNat l.length) (Int.ofNat i) a b (Int.ofNat n) (Int.ofNat z) = _
  have:l.length≤i:=List.drop_eq_nil_iff.1 hd
  unfold b96_1
  rw [ilt_nat,show Nat.blt i l.length = false from by rw [blt_eq];simp;omega];rfl
 | p :: r, w + 1, i, z, hd, hw, hi, hz => by
  show b96_1 pu L (l96_1 pu L w) ⟨l.length,f,vL l⟩ (Int.ofNat l.length) (Int.ofNat i) a b (Int.ofNat n) (Int.ofNat z) = _
  obtain ⟨hd2,hi2,hb'⟩:=drop_next hd
  have hp:=hl p hb'
  have hr:(p :: r).length = r.length + 1:=rfl
  have hlt:Nat.blt i l.length = true:=by rw [blt_eq];simp;omega
  have hk:2 ^ p < 2 ^ 31:=Nat.pow_lt_pow_right (by omega) hp
  have hz2:z ||| 2 ^ p < 2 ^ 31:=Nat.or_lt_two_pow hz hk
  have ih:=made_loop pu L n hl hl2 f a b r w (i + 1) _ hd2 (by omega) (by omega) hz2
  unfold b96_1
  rw [ilt_nat,hlt,bb_true,show toN (Int.ofNat i) = some i from rfl,oo_some]
  show bb (an (Nat.blt i l.length) true) (oo (nthL (vL l) (i * 1)) none _) none = _
  rw [hlt,show an true true = true from rfl,bb_true,vL_get hd,oo_some,show toI .i64 (IV (Int.ofNat p)) = some (Int.ofNat p) from rfl,oo_some,show toN (Int.ofNat p) = some p from rfl,oo_some,shl32 (by omega),aor32 (by omega) (by omega),wrapS i (by omega),ih];rfl
theorem p96 (k:Nat) (args:List Value):puN (k + 1) 96 args = m96 (puN k) L args:=by kernel_rfl
theorem pu_made (k n f:Nat) {l:List Nat} (hl:∀ x ∈ l,x < 31) (hl2:l.length < 900000):puN (k + 1) 96 [IV (Int.ofNat n),Sl.v 1 ⟨l.length,f,vL l⟩] = some (tv n (bitsOf l)):=by
 rw [p96]
 exact made_loop (puN k) L n hl hl2 f 0 0 l L 0 0 List.drop_zero (by show _ < 1000000;omega) (by omega) (by omega)
theorem p61 (k:Nat) (args:List Value):puN (k + 1) 61 args = m61 (puN k) L args:=by kernel_rfl
theorem pu_opened (k f:Nat) {n:Nat} {l:List Nat} (hn0:0 < n) (hn:n≤21) (hl:l.length≤6) (h1:l.Pairwise (· < ·)) (h2:∀ x ∈ l,x < n):puN (k + 2) 61 [.agg ⟨[IV (Int.ofNat n),Sl.v 1 ⟨l.length,f,vL l⟩]⟩] = some (tup2 (tv n (bitsOf l)) (IV 0)):=by
 rw [p61]
 show oo (puN (k + 1) 25 [.agg ⟨[IV (Int.ofNat n),Sl.v 1 ⟨l.length,f,vL l⟩]⟩]) none _ = _
 have hc:=pu_check k f (Int.ofNat n) (l:=l.map Int.ofNat) (by simp;omega)
 rw [checkI_ok hn0 hn hl h1 h2] at hc
 rw [show Sl.v 1 ⟨l.length,f,vL l⟩ = slI f (l.map Int.ofNat) from by unfold slI;rw [vL_iLI,List.length_map],hc,oo_some]
 show oo (puN (k + 1) 96 [IV (Int.ofNat n),slI f (l.map Int.ofNat)]) none _ = _
 have hm:=pu_made k n f (l:=l) (fun x hx=>by have:=h2 x hx;omega) (by omega)
 rw [show slI f (l.map Int.ofNat) = Sl.v 1 ⟨l.length,f,vL l⟩ from by unfold slI;rw [vL_iLI,List.length_map],hm];rfl
end Go.RgP
set_option maxRecDepth 100000
set_option maxHeartbeats 4000000
namespace Go.RgP
open Go Go.Sp Go.RgCM
noncomputable def nilW:Value:=Sl.v 1 (Sl.mk 0 2 [])
noncomputable def noSeal:Value:=.agg ⟨[IV 0,nilW]⟩
noncomputable def multV (n:Nat) (l:List Nat) (m:Int):Value:=
 bif ilt m 1 then tup2 noSeal (IV 1) else bif ilt (Int.ofNat n) m then tup2 noSeal (IV 1) else bif decide (Nat.gcd m.toNat n = 1) then tup2 (seaF n 0 (marksN n (timesN n (bitsOf l) m))) (IV 0) else tup2 noSeal (IV 13)
theorem p40 (k:Nat) (args:List Value):puN (k + 1) 40 args = m40 (puN k) L args:=by kernel_rfl
theorem pu_mult40 (k f:Nat) {n:Nat} {l:List Nat} (h:Good n l) (m:Int):puN (k + 4) 40 [seaF n f l,IV m] = some (multV n l m):=by
 have hn:=h.le
 rw [p40]
 show oo (puN (k + 3) 61 [seaF n f l]) none _ = _
 rw [show puN (k + 3) 61 [seaF n f l] = _ from pu_opened (k + 1) f h.pos h.le h.few h.up h.lt,oo_some]
 show bb (ilt m 1) (some (tup2 noSeal (IV 1))) (m40_0 (puN (k + 3)) L m (ilt (Int.ofNat n) m) (Int.ofNat n) ⟨l.length,f,vL l⟩ (0:Int) (Int.ofNat n) (Int.ofNat (bitsOf l))) = _
 unfold multV m40_0
 cases h1:ilt m 1 with
 | true=>rfl
 | false =>
  rw [bb_false]
  cases h2:ilt (Int.ofNat n) m with
  | true=>rfl
  | false =>
   rw [ilt_eq] at h1 h2
   have h1:¬ m < 1:=of_decide_eq_false h1
   have h2:¬ (n:Int) < m:=of_decide_eq_false h2
   obtain ⟨j,rfl⟩:∃ j:Nat,m = Int.ofNat j:=⟨m.toNat,by show m = ((m.toNat:Nat):Int);omega⟩
   have h1:¬ (j:Int) < 1:=h1
   have h2:¬ (n:Int) < (j:Int):=h2
   rw [bb_false]
   show oo (puN (k + 3) 89 [IV (Int.ofNat j),IV (Int.ofNat n)]) none _ = some (bif false then _ else bif false then _ else bif decide (Nat.gcd j n = 1) then _ else _)
   rw [pu_prime (k + 2) (by omega) h.pos (by omega),oo_some]
   show bb (nt (decide (Nat.gcd j n = 1))) (some (tup2 noSeal (IV 13))) (oo (puN (k + 3) 71 [tv n (bitsOf l),IV (Int.ofNat j)]) none _) = _
   rw [pu_times k h.pos hn (bitsOf_lt h.lt) (by show (-100:Int)≤(j:Int);omega) (by show (j:Int)≤100;omega),oo_some]
   show bb (nt (decide (Nat.gcd j n = 1))) (some (tup2 noSeal (IV 13))) (oo (puN (k + 3) 66 [tv n (timesN n (bitsOf l) (Int.ofNat j))]) none _) = _
   rw [pu_seal k (by omega),oo_some]
   cases decide (Nat.gcd j n = 1) <;> rfl
noncomputable def isMul (n s m:Nat):Bool:=decide (Nat.gcd m n = 1) && (reachN n (timesN n s (Int.ofNat m)) s).isSome
noncomputable def mulF (n s : Nat) : Nat → Nat → List Nat
 | 0,_=>[]
 | k + 1,m=>bif isMul n s m then m :: mulF n s k (m + 1) else mulF n s k (m + 1)
theorem reach_some' (o:Option Nat):reachV o = tup2 (IV (Int.ofNat (o.getD 0))) (.bool o.isSome):=by cases o <;> rfl
theorem mul_loop (k : Nat) {n s : Nat} (hn0 : 0 < n) (hn : n ≤ 21) (hs : s < 2 ^ n) (sl : Sl) : ∀ (j w m c : Nat) (q : List Nat), j < w → m + j = n + 1 → 0 < m → q.length ≤ m → c / 2 = q.length → c % 2 = 0 →
 l42_1 (puN (k + 3)) L w q.length c (Int.ofNat m) (Int.ofNat n) sl (Int.ofNat n) (Int.ofNat s) (vL q) = some (tup2 (slv (q ++ mulF n s j m)) (IV 0))
 | j,0,_,_,_,hw,_,_,_,_,_=>by omega
 | 0, w + 1, m, c, q, _, hk, _, _, _, _ => by
  show b42_1 (puN (k + 3)) L (l42_1 (puN (k + 3)) L w) q.length c (Int.ofNat m) (Int.ofNat n) sl (Int.ofNat n) (Int.ofNat s) (vL q) = _
  unfold b42_1
  rw [vL_closed,bb_true,ilt_nat,show Nat.blt n m = true from by rw [blt_eq];simp;omega,show nt true = false from rfl,bb_false]
  unfold m42_0
  have e1:takeL (q.length * 1) (dropL 0 (vL q)) = vL q:=by
   rw [takeL_eq,dropL_eq,List.drop_zero,Nat.mul_one,←vL_len q,List.take_length]
  rw [e1,vL_closed,bb_true,len_eq,vL_len,show Nat.ble (0 + q.length * 1) q.length = true from Nat.ble_eq_true_of_le (by omega)]
  show _ = some (tup2 (slv (q ++ [])) (IV 0))
  rw [List.append_nil];rfl
 | j + 1, w + 1, m, c, q, hw, hk, hm0, hq, hc, hc2 => by
  show b42_1 (puN (k + 3)) L (l42_1 (puN (k + 3)) L w) q.length c (Int.ofNat m) (Int.ofNat n) sl (Int.ofNat n) (Int.ofNat s) (vL q) = _
  have hsm:wrapF .i64 (Int.add (Int.ofNat m) 1) = Int.ofNat (m + 1):=wrapS m (by omega)
  have stay:=mul_loop k hn0 hn hs sl j w (m + 1) c q (by omega) (by omega) (by omega) (by omega) hc hc2
  have go:=mul_loop k hn0 hn hs sl j w (m + 1) (2 * (q.length + 1) + bb false 1 0) (q ++ [m]) (by omega) (by omega) (by omega) (by simp;omega) (by simp) (by simp)
  rw [List.length_append,show [m].length = 1 from rfl] at go
  have hstay:m42_2 (puN (k + 3)) L (l42_1 (puN (k + 3)) L w) q.length c (Int.ofNat m) (Int.ofNat n) sl (Int.ofNat n) (Int.ofNat s) (vL q) = some (tup2 (slv (q ++ mulF n s j (m + 1))) (IV 0)):=by
   unfold m42_2
   rw [vL_closed,bb_true,hsm,stay]
  unfold b42_1
  rw [vL_closed,bb_true,ilt_nat,show Nat.blt n m = false from by rw [blt_eq];simp;omega,show nt false = true from rfl,bb_true]
  show oo (puN (k + 3) 89 [IV (Int.ofNat m),IV (Int.ofNat n)]) none _ = _
  rw [pu_prime (k + 2) hm0 hn0 (by omega),oo_some]
  show bb (nt (decide (Nat.gcd m n = 1))) (m42_2 (puN (k + 3)) L (l42_1 (puN (k + 3)) L w) q.length c (Int.ofNat m) (Int.ofNat n) sl (Int.ofNat n) (Int.ofNat s) (vL q)) (oo (puN (k + 3) 71 [tv n s,IV (Int.ofNat m)]) none _) = _
  unfold mulF isMul
  cases decide (Nat.gcd m n = 1) with
  | false=>exact hstay
  | true =>
   rw [show nt true = false from rfl,bb_false,pu_times k hn0 hn hs (by show (-100:Int)≤(m:Int);omega) (by show (m:Int)≤100;omega),oo_some]
   show oo (puN (k + 3) 70 [tv n (timesN n s (Int.ofNat m)),tv n s]) none _ = _
   rw [pu_reaches (k + 1) hn (timesN_lt hn0),reach_some',oo_some]
   show bb (reachN n (timesN n s (Int.ofNat m)) s).isSome (bb (growC 1 8 q.length c 1 (vL q)) (bb (allL closed1 (appL (dropL 0 (vL q)) [.int .i64 (Int.ofNat m)])) (m42_2 (puN (k + 3)) L (l42_1 (puN (k + 3)) L w) (q.length + 1) (2 * (q.length + 1) + bb false 1 0) (Int.ofNat m) (Int.ofNat n) sl (Int.ofNat n) (Int.ofNat s) (appL (dropL 0 (vL q)) [.int .i64 (Int.ofNat m)])) none) none) (m42_2 (puN (k + 3)) L (l42_1 (puN (k + 3)) L w) q.length c (Int.ofNat m) (Int.ofNat n) sl (Int.ofNat n) (Int.ofNat s) (vL q)) = _
   cases (reachN n (timesN n s (Int.ofNat m)) s).isSome with
   | false=>exact hstay
   | true =>
    rw [bb_true,grow_vL (by omega) hc hc2,bb_true,vL_snoc,vL_closed,bb_true]
    unfold m42_2
    rw [vL_closed,bb_true,hsm,go,List.append_assoc];rfl
theorem p42 (k:Nat) (args:List Value):puN (k + 1) 42 args = m42 (puN k) L args:=by kernel_rfl
theorem pu_mul42 (k f:Nat) {n:Nat} {l:List Nat} (h:Good n l):puN (k + 4) 42 [seaF n f l] = some (tup2 (slv (mulF n (bitsOf l) n 1)) (IV 0)):=by
 have hn:=h.le
 rw [p42]
 show oo (puN (k + 3) 61 [seaF n f l]) none _ = _
 rw [show puN (k + 3) 61 [seaF n f l] = _ from pu_opened (k + 1) f h.pos h.le h.few h.up h.lt,oo_some]
 have hl:=mul_loop k h.pos hn (bitsOf_lt h.lt) ⟨l.length,f,vL l⟩ n L 1 0 [] (by show n < 1000000;omega) (by omega) (by omega) (by simp) rfl rfl
 exact hl
end Go.RgP
set_option maxRecDepth 100000
set_option maxHeartbeats 2000000
namespace Go.RgP
open Go Go.Sp
theorem setOf_comp {n:Nat} (hn:n≤31) (f g:Nat→Nat) (l:List Nat) (hg:∀ p ∈ l,g p < n):setOf f (marksN n (setOf g l 0)) 0 = setOf (fun p=>f (g p)) l 0:=by
 have h:=lt32 hn (setOf_lt g (l:=l) (Nat.two_pow_pos n) hg)
 refine Nat.eq_of_testBit_eq fun q=>?_
 rw [setOf_bit,setOf_bit,Nat.zero_testBit,Bool.false_or,Bool.false_or,Bool.eq_iff_iff]
 simp only [List.any_eq_true,decide_eq_true_eq]
 constructor
 ·rintro ⟨x, hx, rfl⟩
  have:=((mem_marks h).1 hx).2
  rw [setOf_bit,Nat.zero_testBit,Bool.false_or] at this
  obtain ⟨p,hp,e⟩:=List.any_eq_true.1 this
  exact ⟨p,hp,by rw [of_decide_eq_true e]⟩
 ·rintro ⟨p, hp, rfl⟩
  refine ⟨g p,(mem_marks h).2 ⟨hg p hp,?_⟩,rfl⟩
  rw [setOf_bit,Nat.zero_testBit,Bool.false_or,List.any_eq_true]
  exact ⟨p,hp,decide_eq_true rfl⟩
theorem plc_mul {n:Nat} (hn:0 < n) (x m:Int):plc n (((plc n x:Nat):Int) * m) = plc n (x * m):=by
 have h:=plc_cast hn x
 have e:(((plc n x:Nat):Int) * m) % (n:Int) = (x * m) % (n:Int):=by
  rw [h,Int.mul_emod,Int.emod_emod_of_dvd _ (Int.dvd_refl _),←Int.mul_emod]
 show ((((plc n x:Nat):Int) * m) % (n:Int)).toNat = ((x * m) % (n:Int)).toNat
 rw [e]
theorem turn_setOf {n s b:Nat} (hn0:0 < n) (hn:n≤31) (hs:s < 2 ^ n) (hb:b < n):turnN n s b = setOf (fun p=>plc n ((p:Int) + (b:Int))) (marksN n s) 0:=by
 rw [turn_moved hn0 hn hs,plc_nat,Nat.mod_eq_of_lt hb]
theorem times_turn {n s b:Nat} (hn0:0 < n) (hn:n≤31) (hs:s < 2 ^ n) (hb:b < n) (m:Int):timesN n (turnN n s b) m = turnN n (timesN n s m) (plc n ((b:Int) * m)):=by
 unfold timesN
 rw [turn_setOf hn0 hn hs hb,setOf_comp hn _ _ _ fun p _=>plc_lt hn0 _,←moved_turn hn0 hn]
 congr 1
 funext p
 rw [plc_mul hn0,Int.add_mul]
theorem times_times {n s:Nat} (hn0:0 < n) (hn:n≤31) (a b:Int):timesN n (timesN n s a) b = timesN n s (a * b):=by
 unfold timesN
 rw [setOf_comp hn _ _ _ fun p _=>plc_lt hn0 _]
 congr 1
 funext p
 rw [plc_mul hn0,Int.mul_assoc]
theorem times_mod {n s:Nat} (m:Int):timesN n s (m % (n:Int)) = timesN n s m:=by
 unfold timesN
 congr 1
 funext p
 unfold plc
 rw [Int.mul_emod,Int.emod_emod_of_dvd _ (Int.dvd_refl _),←Int.mul_emod]
theorem isMul_iff {n s m:Nat} (hn0:0 < n) (hn:n≤31) (hs:s < 2 ^ n):isMul n s m = (decide (Nat.gcd m n = 1) && decide (minT n (timesN n s (Int.ofNat m)) = minT n s)):=by
 unfold isMul
 rw [reach_iff hn hn0 hs (timesN_lt hn0)]
theorem isMul_turn {n s b m:Nat} (hn0:0 < n) (hn:n≤31) (hs:s < 2 ^ n) (hb:b < n):isMul n (turnN n s b) m = isMul n s m:=by
 rw [isMul_iff hn0 hn turn_lt,isMul_iff hn0 hn hs,times_turn hn0 hn hs hb,minT_turn hn (timesN_lt hn0) (plc_lt hn0 _),minT_turn hn hs hb]
theorem mulF_turn {n s b : Nat} (hn0 : 0 < n) (hn : n ≤ 31) (hs : s < 2 ^ n) (hb : b < n) : ∀ k m, mulF n (turnN n s b) k m = mulF n s k m
 | 0,_=>rfl
 | k + 1, m => by
  unfold mulF
  rw [isMul_turn hn0 hn hs hb,mulF_turn hn0 hn hs hb k (m + 1)]
theorem mulF_mem (n s : Nat) : ∀ (k m x : Nat), x ∈ mulF n s k m ↔ m ≤ x ∧ x < m + k ∧ isMul n s x = true
 | 0,m,x=>by simp [mulF];omega
 | k + 1, m, x => by
  have ih:=mulF_mem n s k (m + 1) x
  unfold mulF
  cases hb:isMul n s m with
  | true =>
   show x ∈ m :: mulF n s k (m + 1)↔_
   rw [List.mem_cons,ih]
   constructor
   ·rintro (rfl | ⟨h1, h2, h3⟩)
    ·exact ⟨Nat.le_refl _,by omega,hb⟩
    ·exact ⟨by omega,by omega,h3⟩
   ·rintro ⟨h1, h2, h3⟩
    by_cases h:x = m
    ·exact .inl h
    ·exact .inr ⟨by omega,by omega,h3⟩
  | false =>
   show x ∈ mulF n s k (m + 1)↔_
   rw [ih]
   constructor
   ·rintro ⟨h1,h2,h3⟩;exact ⟨by omega,by omega,h3⟩
   ·rintro ⟨h1, h2, h3⟩
    refine ⟨?_,by omega,h3⟩
    by_cases h:x = m
    ·subst h;rw [hb] at h3;cases h3
    ·omega
theorem isMul_prod {n s a b:Nat} (hn0:1 < n) (hn:n≤31) (hs:s < 2 ^ n) (ha:isMul n s a = true) (hb:isMul n s b = true):isMul n s (a * b % n) = true∧0 < a * b % n:=by
 have h0:0 < n:=by omega
 rw [isMul_iff h0 hn hs,Bool.and_eq_true,decide_eq_true_eq,decide_eq_true_eq] at ha hb
 obtain ⟨ga,ma⟩:=ha
 obtain ⟨gb,mb⟩:=hb
 have hg:Nat.gcd (a * b % n) n = 1:=by
  rw [←Nat.gcd_rec n (a * b),Nat.gcd_comm]
  exact Nat.Coprime.mul_left ga gb
 refine ⟨?_,?_⟩
 ·rw [isMul_iff h0 hn hs, Bool.and_eq_true, decide_eq_true_eq, decide_eq_true_eq]
  refine ⟨hg,?_⟩
  have e1:timesN n s (Int.ofNat (a * b % n)) = timesN n (timesN n s (Int.ofNat a)) (Int.ofNat b):=by
   rw [times_times h0 hn,←times_mod (Int.ofNat a * Int.ofNat b)]
   congr 1
  have hr:(reachN n (timesN n s (Int.ofNat a)) s).isSome = true:=by rw [reach_iff hn h0 hs (timesN_lt h0),decide_eq_true_eq];exact ma
  obtain ⟨i,hi⟩:=Option.isSome_iff_exists.1 hr
  have hi1:=List.mem_range.1 (List.mem_of_find?_eq_some hi)
  have hi2:turnN n (timesN n s (Int.ofNat a)) i = s:=Nat.eq_of_beq_eq_true (List.find?_some (p:=fun b=>Nat.beq (turnN n (timesN n s (Int.ofNat a)) b) s) hi)
  have hback:timesN n s (Int.ofNat a) = turnN n s ((n - i) % n):=by
   have:=turn_back hn (timesN_lt (n:=n) (s:=s) h0 (m:=Int.ofNat a)) hi1
   rw [hi2] at this;exact this.symm
  rw [e1,hback,times_turn h0 hn hs (Nat.mod_lt _ h0),minT_turn hn (timesN_lt h0) (plc_lt h0 _),mb]
 ·rcases Nat.eq_zero_or_pos (a * b % n) with h | h
  ·rw [h,Nat.gcd_zero_left] at hg;omega
  ·exact h
theorem dist_mult {n m d:Nat} {l:List Nat} (h:Good n l) (hg:Nat.gcd m n = 1) (hd:0 < d) (hdn:d < n):cntD n (marksN n (timesN n (bitsOf l) (Int.ofNat m))) (d * m % n) = cntD n l d∧0 < d * m % n:=by
 have hn0:=h.pos
 have hn:=h.le
 have hinj : ∀ x y, x < n → y < n → x * m % n = y * m % n → x = y := fun x y hx hy e => injC hn0 hg hx hy (by
  rw [Int.add_zero,Int.add_zero,←Int.natCast_mul,←Int.natCast_mul,plc_nat,plc_nat];exact e)
 have hf:∀ p:Nat,plc n ((p:Int) * Int.ofNat m) = p * m % n:=fun p=>by
  show plc n ((p:Int) * (m:Int)) = _
  rw [←Int.natCast_mul,plc_nat]
 have ht:=timesN_lt (n:=n) (s:=bitsOf l) hn0 (m:=Int.ofNat m)
 have ht32:=lt32 (n:=n) (by omega) ht
 have hmem:∀ x,x ∈ marksN n (timesN n (bitsOf l) (Int.ofNat m))↔∃ p ∈ l,p * m % n = x:=fun x=>by
  rw [mem_marks ht32]
  unfold timesN
  rw [setOf_bit,Nat.zero_testBit,Bool.false_or,h.marks]
  simp only [List.any_eq_true,decide_eq_true_eq,hf]
  exact ⟨fun ⟨_,p⟩=>p,fun ⟨p,hp,e⟩=>⟨by rw [←e];exact Nat.mod_lt _ hn0,p,hp,e⟩⟩
 have hperm:(l.map fun p=>p * m % n).Perm (marksN n (timesN n (bitsOf l) (Int.ofNat m))):=by
  refine (List.perm_ext_iff_of_nodup (nodup_map_on (nodup_of_lt h.up) fun a ha b hb e=>hinj a b (h.lt a ha) (h.lt b hb) e) (nodup_of_lt (marks_sorted ht32))).2 fun x=>?_
  rw [hmem,List.mem_map]
 refine ⟨?_,?_⟩
 ·rw [← cntD_perm hperm]
  unfold cntD
  rw [List.countP_map]
  refine List.countP_congr fun a ha=>?_
  have hal:=h.lt a ha
  have e:(a * m % n + d * m % n) % n = (a + d) % n * m % n:=by
   rw [Nat.mod_mul_mod,Nat.add_mul,←Nat.add_mod]
  simp only [Function.comp,decide_eq_true_eq,e,List.mem_map]
  constructor
  ·rintro ⟨p, hp, hpe⟩
   have:=hinj p _ (h.lt p hp) (Nat.mod_lt _ hn0) hpe
   rw [←this];exact hp
  ·intro hp;exact ⟨_,hp,rfl⟩
 ·rcases Nat.eq_zero_or_pos (d * m % n) with h0 | h0
  ·have:=hinj d 0 hdn hn0 (by rw [h0,Nat.zero_mul,Nat.zero_mod]);omega
  ·exact h0
end Go.RgP
set_option maxRecDepth 100000
set_option maxHeartbeats 4000000
namespace Go.RgP
open Go Go.Sp Go.RgCM
noncomputable def cmpN (a b:List Nat):Int:=bif lexB a b then -1 else bif lexB b a then 1 else 0
theorem p98 (k:Nat) (args:List Value):puN (k + 1) 98 args = m98 (puN k) L args:=by kernel_rfl
theorem p92 (k:Nat) (args:List Value):puN (k + 1) 92 args = m92 (puN k) L args:=by kernel_rfl
theorem pu_cmp (k x y:Nat):puN (k + 2) 92 [IV (Int.ofNat x),IV (Int.ofNat y)] = some (IV (bif Nat.blt x y then -1 else bif Nat.blt y x then 1 else 0)):=by
 have h98:∀ z:Nat,puN (k + 1) 98 [IV (Int.ofNat z)] = some (.bool false):=fun z=>by
  rw [p98]
  show some (Value.bool (nt (ieq (Int.ofNat z) (Int.ofNat z)))) = _
  rw [ieq_nat,Nat.beq_refl];rfl
 rw [p92]
 show m92_ (puN (k + 1)) L (Int.ofNat x) (Int.ofNat y) = _
 unfold m92_
 rw [h98,oo_some,show vBool (Value.bool false) = some false from rfl,oo_some,h98,oo_some,show vBool (Value.bool false) = some false from rfl,oo_some]
 show bb (ilt (Int.ofNat x) (Int.ofNat y)) (some (IV (-1))) (bb (ilt (Int.ofNat y) (Int.ofNat x)) (some (IV 1)) (some (IV 0))) = _
 rw [ilt_nat,ilt_nat]
 cases Nat.blt x y <;> cases Nat.blt y x <;> rfl
theorem cmp_loop (k : Nat) {a b : List Nat} (ha : a.length < 900000) (f1 f2 : Nat) : ∀ (r r' : List Nat) (w i : Nat), a.drop i = r → b.drop i = r' → r.length < w → i ≤ a.length → i ≤ b.length →
 l52_1 (puN (k + 2)) L w ⟨a.length,f1,vL a⟩ ⟨b.length,f2,vL b⟩ ⟨a.length,f1,vL a⟩ (Int.ofNat a.length) (Int.ofNat i) = some (IV (cmpN r r'))
 | _,_,0,_,_,_,h,_,_=>by omega
 | [], r', w + 1, i, hd, hd', _, hi, hi' => by
  show b52_1 (puN (k + 2)) L (l52_1 (puN (k + 2)) L w) ⟨a.length,f1,vL a⟩ ⟨b.length,f2,vL b⟩ ⟨a.length,f1,vL a⟩ (Int.ofNat a.length) (Int.ofNat i) = _
  have h1:a.length≤i:=List.drop_eq_nil_iff.1 hd
  unfold b52_1
  rw [ilt_nat,show Nat.blt i a.length = false from by rw [blt_eq];simp;omega,bb_false]
  show bb (ilt (Int.ofNat a.length) (Int.ofNat b.length)) (some (IV (-1))) (some (IV 0)) = _
  rw [ilt_nat,blt_eq]
  cases r' with
  | nil =>
   have h2:b.length≤i:=List.drop_eq_nil_iff.1 hd'
   rw [decide_eq_false (by omega)];rfl
  | cons y r' =>
   have:=(drop_next hd').2.1
   rw [decide_eq_true (by omega)];rfl
 | x :: r, r', w + 1, i, hd, hd', hw, hi, hi' => by
  show b52_1 (puN (k + 2)) L (l52_1 (puN (k + 2)) L w) ⟨a.length,f1,vL a⟩ ⟨b.length,f2,vL b⟩ ⟨a.length,f1,vL a⟩ (Int.ofNat a.length) (Int.ofNat i) = _
  obtain ⟨hd2,hi2,_⟩:=drop_next hd
  have hr:(x :: r).length = r.length + 1:=rfl
  have hlt:Nat.blt i a.length = true:=by rw [blt_eq];simp;omega
  unfold b52_1
  rw [ilt_nat,hlt,bb_true,show toN (Int.ofNat i) = some i from rfl,oo_some]
  show bb (an (Nat.blt i a.length) true) (oo (nthL (vL a) (i * 1)) none _) none = _
  rw [hlt,show an true true = true from rfl,bb_true,vL_get hd,oo_some,show ∀ z,toI .i64 (IV z) = some z from fun _=>rfl,oo_some]
  cases r' with
  | nil =>
   have h2:b.length≤i:=List.drop_eq_nil_iff.1 hd'
   show bb (nt (ilt (Int.ofNat i) (Int.ofNat b.length))) (some (IV 1)) _ = _
   rw [ilt_nat,show Nat.blt i b.length = false from by rw [blt_eq];simp;omega];rfl
  | cons y r' =>
   obtain ⟨hd3,hi3,_⟩:=drop_next hd'
   have hlt2:Nat.blt i b.length = true:=by rw [blt_eq];simp;omega
   have ih:=cmp_loop k ha f1 f2 r r' w (i + 1) hd2 hd3 (by omega) (by omega) (by omega)
   show bb (nt (ilt (Int.ofNat i) (Int.ofNat b.length))) (some (IV 1)) (bb (an (Nat.blt i b.length) true) (oo (nthL (vL b) (i * 1)) none fun v4808=>oo (toI .i64 v4808) none fun x4810=>oo (puN (k + 2) 92 [IV (Int.ofNat x),IV x4810]) none fun v4816=>oo (toI .i64 v4816) none fun x4818=>bb (nt (ieq x4818 (0:Int))) (some (IV x4818)) (l52_1 (puN (k + 2)) L w ⟨a.length,f1,vL a⟩ ⟨b.length,f2,vL b⟩ ⟨a.length,f1,vL a⟩ (Int.ofNat a.length) (wrapF .i64 (Int.add (Int.ofNat i) (1:Int))))) none) = _
   rw [ilt_nat,hlt2,show nt true = false from rfl,bb_false,show an true true = true from rfl,bb_true,vL_get hd',oo_some,show ∀ z,toI .i64 (IV z) = some z from fun _=>rfl,oo_some,pu_cmp,oo_some,show ∀ z,toI .i64 (IV z) = some z from fun _=>rfl,oo_some,wrapS i (by omega),ih]
   unfold cmpN
   rw [lexB_cons,lexB_cons,blt_eq,blt_eq,beq_dec,beq_dec]
   by_cases h1:x = y
   ·subst h1
    rw [decide_eq_true rfl,decide_eq_false (Nat.lt_irrefl x)];rfl
   ·rw [decide_eq_false h1, decide_eq_false (Ne.symm h1)]
    by_cases h2:x < y
    ·rw [decide_eq_true h2];rfl
    ·rw [decide_eq_false h2,decide_eq_true (show y < x by omega)];rfl
theorem p52 (k:Nat) (args:List Value):puN (k + 1) 52 args = m52 (puN k) L args:=by kernel_rfl
theorem pu_compare (k f1 f2:Nat) {a b:List Nat} (ha:a.length < 900000):puN (k + 3) 52 [Sl.v 1 ⟨a.length,f1,vL a⟩,Sl.v 1 ⟨b.length,f2,vL b⟩] = some (IV (cmpN a b)):=by
 rw [p52]
 exact cmp_loop k ha f1 f2 a b L 0 List.drop_zero List.drop_zero (by show _ < 1000000;omega) (by omega) (by omega)
theorem cmp_neg (a b:List Nat):ilt (cmpN a b) 0 = lexB a b:=by
 unfold cmpN
 cases lexB a b with
 | true=>rfl
 | false=>cases lexB b a <;> rfl
end Go.RgP
set_option maxRecDepth 100000
set_option maxHeartbeats 4000000
namespace Go.RgP
open Go Go.Sp Go.RgCM
theorem marks48_loop (pu : PureF) (L s : Nat) : ∀ (k w p c : Nat) (q : List Nat), k < w → p + k = 21 → q.length ≤ p → c / 2 = q.length → c % 2 = 0 →
 l48_1 pu L w (Int.ofNat s) q.length c (Int.ofNat p) (vL q) = some (slv (q ++ markF s k p))
 | k,0,_,_,_,h,_,_,_,_=>by omega
 | 0, w + 1, p, c, q, _, hk, _, _, _ => by
  show b48_1 pu L (l48_1 pu L w) (Int.ofNat s) q.length c (Int.ofNat p) (vL q) = _
  unfold b48_1
  rw [vL_closed,bb_true,show (21:Int) = Int.ofNat 21 from rfl,ilt_nat,show Nat.blt p 21 = false from by rw [blt_eq];simp;omega,bb_false]
  unfold m48_0
  rw [vL_closed,bb_true,fin_vL]
  show _ = some (slv (q ++ []))
  rw [List.append_nil]
 | k + 1, w + 1, p, c, q, hw, hk, hq, hc, hc2 => by
  show b48_1 pu L (l48_1 pu L w) (Int.ofNat s) q.length c (Int.ofNat p) (vL q) = _
  unfold b48_1
  rw [vL_closed,bb_true,show (21:Int) = Int.ofNat 21 from rfl,ilt_nat,show Nat.blt p 21 = true from by rw [blt_eq];simp;omega,bb_true]
  show bb (hasB s p) _ _ = _
  have hs:wrapF .i64 (Int.add (Int.ofNat p) 1) = Int.ofNat (p + 1):=wrapS p (by omega)
  unfold markF
  cases hasB s p with
  | false =>
   rw [bb_false]
   unfold m48_2
   rw [vL_closed,bb_true,hs]
   exact marks48_loop pu L s k w (p + 1) c q (by omega) (by omega) (by omega) hc hc2
  | true =>
   rw [bb_true,grow_vL (by omega) hc hc2,bb_true,vL_snoc,vL_closed,bb_true]
   unfold m48_2
   rw [vL_closed,bb_true,hs]
   have ih:=marks48_loop pu L s k w (p + 1) (2 * (q.length + 1) + bb false 1 0) (q ++ [p]) (by omega) (by omega) (by simp;omega) (by simp) (by simp)
   rw [List.length_append] at ih
   show l48_1 pu L w (Int.ofNat s) (q.length + 1) (2 * (q.length + 1) + bb false 1 0) (Int.ofNat (p + 1)) (vL (q ++ [p])) = _
   rw [show [p].length = 1 from rfl] at ih
   rw [ih,List.append_assoc];rfl
theorem p48 (k:Nat) (args:List Value):puN (k + 1) 48 args = m48 (puN k) L args:=by kernel_rfl
theorem pu_marks48 (k s:Nat):puN (k + 1) 48 [U s] = some (slv (marksN 21 s)):=by
 rw [p48];exact marks48_loop (puN k) L s 21 L 0 0 [] (by show 21 < 1000000;omega) rfl (by simp) rfl rfl
theorem p47 (k:Nat) (args:List Value):puN (k + 1) 47 args = m47 (puN k) L args:=by kernel_rfl
theorem pu_sealed (k n s:Nat):puN (k + 2) 47 [IV (Int.ofNat n),U s] = some (seaV n (marksN 21 s)):=by
 rw [p47]
 show oo (puN (k + 1) 48 [U s]) none _ = _
 rw [pu_marks48,oo_some];rfl
end Go.RgP
set_option maxRecDepth 100000
set_option maxHeartbeats 4000000
namespace Go.RgP
open Go Go.Sp Go.RgCM
theorem moved49_loop (pu : PureF) (L : Nat) {n : Nat} (hn0 : 0 < n) (hn : n ≤ 21) {m b : Int} (hm : -100 ≤ m) (hm2 : m ≤ 100) (hb : -100000000 ≤ b) (hb2 : b ≤ 100000000) {l : List Nat} (hl : ∀ x ∈ l, x < 32) (hl2 : l.length < 100) :
 ∀ (r:List Nat) (w i z:Nat),l.drop i = r→r.length < w→i≤l.length→z < 2 ^ n →
 l49_1 pu L w (Int.ofNat n) m b (Int.ofNat z) ⟨l.length,0,vL l⟩ (Int.ofNat l.length) (Int.ofNat i) = some (U (setOf (fun p=>plc n ((p:Int) * m + b)) r z))
 | _,0,_,_,_,h,_,_=>by omega
 | [], w + 1, i, z, hd, _, hi, _ => by
  show b49_1 pu L (l49_1 pu L w) (Int.ofNat n) m b (Int.ofNat z) ⟨l.length,0,vL l⟩ (Int.ofNat l.length) (Int.ofNat i) = _
  have:l.length≤i:=List.drop_eq_nil_iff.1 hd
  unfold b49_1
  rw [ilt_nat,show Nat.blt i l.length = false from by rw [blt_eq];simp;omega];rfl
 | p :: r, w + 1, i, z, hd, hw, hi, hz => by
  show b49_1 pu L (l49_1 pu L w) (Int.ofNat n) m b (Int.ofNat z) ⟨l.length,0,vL l⟩ (Int.ofNat l.length) (Int.ofNat i) = _
  obtain ⟨hd2,hi2,hb'⟩:=drop_next hd
  have hp:=hl p hb'
  have hr:(p :: r).length = r.length + 1:=rfl
  have hlt:Nat.blt i l.length = true:=by rw [blt_eq];simp;omega
  have hs:wrapF .i64 (Int.add (Int.ofNat i) 1) = Int.ofNat (i + 1):=wrapS i (by omega)
  have hpl:=plc_lt hn0 ((p:Int) * m + b)
  have hk:2 ^ plc n ((p:Int) * m + b) < 2 ^ n:=Nat.pow_lt_pow_right (by omega) hpl
  have hz2:z ||| 2 ^ plc n ((p:Int) * m + b) < 2 ^ n:=Nat.or_lt_two_pow hz hk
  have ih:=moved49_loop pu L hn0 hn hm hm2 hb hb2 hl hl2 r w (i + 1) _ hd2 (by omega) (by omega) hz2
  have b1:-3200≤(p:Int) * m:=by
   have:(p:Int) * (-100)≤(p:Int) * m:=Int.mul_le_mul_of_nonneg_left hm (by omega)
   omega
  have b2:(p:Int) * m≤3200:=by
   have:(p:Int) * m≤(p:Int) * 100:=Int.mul_le_mul_of_nonneg_left hm2 (by omega)
   omega
  have hne:ieq (Int.ofNat n) 0 = false:=by rw [show (0:Int) = Int.ofNat 0 from rfl,ieq_nat];exact beq_ne (by omega)
  have e1:wrapF .i64 (Int.mul (Int.ofNat p) m) = (p:Int) * m:=wrapI _ (by show _≤(p:Int) * m;omega) (by show (p:Int) * m≤_;omega)
  have e2:=rem2 hn0 (by omega) (x:=(p:Int) * m + b) (by omega) (by omega)
  unfold b49_1
  rw [ilt_nat,hlt,bb_true,show toN (Int.ofNat i) = some i from rfl,oo_some]
  show bb (an (Nat.blt i l.length) true) _ none = _
  rw [hlt,show an true true = true from rfl,bb_true]
  show oo (nthL (vL l) (i * 1)) none _ = _
  rw [vL_get hd,oo_some,show toI .i64 (IV (Int.ofNat p)) = some (Int.ofNat p) from rfl,oo_some,hne,show nt false = true from rfl,bb_true,bb_true,e1]
  show oo (toN (Int.tmod (wrapF .i64 (Int.add (Int.tmod (wrapF .i64 ((p:Int) * m + b)) (Int.ofNat n)) (Int.ofNat n))) (Int.ofNat n))) none _ = _
  rw [e2,show ∀ j,toN (Int.ofNat j) = some j from fun _=>rfl,oo_some,shl32 (by omega),aor32 (lt32 (by omega) hz) (lt32 (by omega) hk),hs,ih];rfl
theorem p49 (k:Nat) (args:List Value):puN (k + 1) 49 args = m49 (puN k) L args:=by kernel_rfl
theorem pu_moved (k : Nat) {n s : Nat} (hn0 : 0 < n) (hn : n ≤ 21) (hs : s < 2 ^ n) {m b : Int} (hm : -100 ≤ m) (hm2 : m ≤ 100) (hb : -100000000 ≤ b) (hb2 : b ≤ 100000000) :
 puN (k + 2) 49 [IV (Int.ofNat n),U s,IV m,IV b] = some (U (setOf (fun p=>plc n ((p:Int) * m + b)) (marksN n s) 0)):=by
 have hs32:=lt32 (by omega) hs
 have hl:=marks_len (n:=n) (s:=s)
 rw [p49]
 show oo (puN (k + 1) 48 [U s]) none _ = _
 rw [pu_marks48,oo_some,marks_more hs32 hs hn]
 exact moved49_loop (puN (k + 1)) L hn0 hn hm hm2 hb hb2 (fun x hx=>by have:=(mem_marks hs32).1 hx;omega) (by omega) _ L 0 0 (List.drop_zero) (by show _ < 1000000;omega) (by omega) (Nat.two_pow_pos n)
theorem pu_turned1 (k : Nat) {n s : Nat} (hn0 : 0 < n) (hn : n ≤ 21) (hs : s < 2 ^ n) {b : Int} (hb : -100000000 ≤ b) (hb2 : b ≤ 100000000) :
 puN (k + 2) 49 [IV (Int.ofNat n),U s,IV 1,IV b] = some (U (turnN n s (plc n b))):=by
 rw [pu_moved k hn0 hn hs (by omega) (by omega) hb hb2,←turn_moved hn0 (by omega) hs]
 simp only [Int.mul_one]
end Go.RgP
set_option maxRecDepth 100000
set_option maxHeartbeats 4000000
namespace Go.RgP
open Go Go.Sp Go.RgCM
theorem least_loop (k : Nat) {n s : Nat} (hn0 : 0 < n) (hn : n ≤ 21) (hs : s < 2 ^ n) : ∀ (j w b best : Nat), j < w → b + j = n → best < 2 ^ n → ∃ z, z < 2 ^ n ∧ marksN n z = minL (marksN n best) ((List.range' b j).map fun i => marksN n (turnN n s i)) ∧
 l58_1 (puN (k + 3)) L w (Int.ofNat n) (Int.ofNat s) (Int.ofNat best) (Int.ofNat n) (Int.ofNat b) = some (U z)
 | j,0,_,_,hw,_,_=>by omega
 | 0, w + 1, b, best, _, hb, hbest => by
  refine ⟨best,hbest,rfl,?_⟩
  show b58_1 (puN (k + 3)) L (l58_1 (puN (k + 3)) L w) (Int.ofNat n) (Int.ofNat s) (Int.ofNat best) (Int.ofNat n) (Int.ofNat b) = _
  unfold b58_1
  rw [ilt_nat,show Nat.blt b n = false from by rw [blt_eq];simp;omega];rfl
 | j + 1, w + 1, b, best, hw, hb, hbest => by
  have ht:=turn_lt (n:=n) (s:=s) (b:=b)
  have hlen:=marks_len (n:=n) (s:=turnN n s b)
  have hbool:(bif lexB (marksN n (turnN n s b)) (marksN n best) then turnN n s b else best) < 2 ^ n:=by
   cases lexB (marksN n (turnN n s b)) (marksN n best) with
   | true=>exact ht
   | false=>exact hbest
  obtain ⟨z,z1,z2,z3⟩:=least_loop k hn0 hn hs j w (b + 1) (bif lexB (marksN n (turnN n s b)) (marksN n best) then turnN n s b else best) (by omega) (by omega) hbool
  refine ⟨z,z1,?_,?_⟩
  ·rw [z2, List.range'_succ, List.map_cons]
   show _ = minL (bif lexB (marksN n (turnN n s b)) (marksN n best) then marksN n (turnN n s b) else marksN n best) _
   congr 1
   cases lexB (marksN n (turnN n s b)) (marksN n best) <;> rfl
  ·show b58_1 (puN (k + 3)) L (l58_1 (puN (k + 3)) L w) (Int.ofNat n) (Int.ofNat s) (Int.ofNat best) (Int.ofNat n) (Int.ofNat b) = _
   have hmv:=pu_turned1 (k + 1) hn0 hn hs (b:=(b:Int)) (by omega) (by omega)
   rw [plc_nat,Nat.mod_eq_of_lt (by omega)] at hmv
   have hm1:puN (k + 3) 48 [U (turnN n s b)] = some (slv (marksN n (turnN n s b))):=by
    rw [show k + 3 = (k + 2) + 1 from rfl,pu_marks48,marks_more (lt32 (n:=n) (by omega) ht) ht hn]
   have hm2:puN (k + 3) 48 [U best] = some (slv (marksN n best)):=by
    rw [show k + 3 = (k + 2) + 1 from rfl,pu_marks48,marks_more (lt32 (n:=n) (by omega) hbest) hbest hn]
   unfold b58_1
   rw [ilt_nat,show Nat.blt b n = true from by rw [blt_eq];simp;omega,bb_true]
   show oo (puN (k + 3) 49 [IV (Int.ofNat n),U s,IV 1,IV (b:Int)]) none _ = _
   rw [hmv,oo_some]
   show oo (puN (k + 3) 48 [U (turnN n s b)]) none _ = _
   rw [hm1,oo_some]
   show oo (puN (k + 3) 48 [U best]) none _ = _
   rw [hm2,oo_some]
   show oo (puN (k + 3) 52 [Sl.v 1 ⟨(marksN n (turnN n s b)).length,0,vL (marksN n (turnN n s b))⟩,Sl.v 1 ⟨(marksN n best).length,0,vL (marksN n best)⟩]) none _ = _
   rw [pu_compare k 0 0 (by omega),oo_some]
   unfold m58_2
   show bb (ilt (cmpN (marksN n (turnN n s b)) (marksN n best)) 0) (l58_1 (puN (k + 3)) L w (Int.ofNat n) (Int.ofNat s) (Int.ofNat (turnN n s b)) (Int.ofNat n) (wrapF .i64 (Int.add (Int.ofNat b) (1:Int)))) (l58_1 (puN (k + 3)) L w (Int.ofNat n) (Int.ofNat s) (Int.ofNat best) (Int.ofNat n) (wrapF .i64 (Int.add (Int.ofNat b) (1:Int)))) = _
   rw [cmp_neg,wrapS b (by omega)]
   revert z3
   cases lexB (marksN n (turnN n s b)) (marksN n best) with
   | true=>exact fun z3=>z3
   | false=>exact fun z3=>z3
theorem p58 (k:Nat) (args:List Value):puN (k + 1) 58 args = m58 (puN k) L args:=by kernel_rfl
theorem pu_least (k:Nat) {n s:Nat} (hn0:0 < n) (hn:n≤21) (hs:s < 2 ^ n):puN (k + 4) 58 [IV (Int.ofNat n),U s] = some (U (bitsOf (minT n s))):=by
 obtain ⟨z,z1,z2,z3⟩:=least_loop k hn0 hn hs n L 0 s (by show n < 1000000;omega) (by omega) hs
 have e:minL (marksN n s) ((List.range' 0 n).map fun i=>marksN n (turnN n s i)) = minT n s:=by
  obtain ⟨m,rfl⟩:∃ m,n = m + 1:=⟨n - 1,by omega⟩
  rw [List.range'_succ,List.map_cons,turn_zero (by omega) (by omega) hs]
  show minL (bif lexB (marksN (m + 1) s) (marksN (m + 1) s) then marksN (m + 1) s else marksN (m + 1) s) _ = _
  rw [lexB_irr]
  show minL (marksN (m + 1) s) _ = minL (marksN (m + 1) (turnN (m + 1) s 0)) _
  rw [turn_zero (by omega) (by omega) hs,List.range'_eq_map_range,List.map_map]
  congr 1
  apply List.map_congr_left
  intro i _
  show marksN (m + 1) (turnN (m + 1) s (0 + 1 + i)) = _
  rw [Nat.zero_add,Nat.add_comm 1 i]
 rw [e] at z2
 have hz:z = bitsOf (minT n s):=by rw [←z2,bitsOf_marks (by omega) z1]
 rw [p58,←hz]
 exact z3
theorem index_loop (pu : PureF) (L : Nat) {l : List Nat} (hl : l.length < 900000) (f x : Nat) : ∀ (r : List Nat) (w i : Nat), l.drop i = r → r.length < w → i ≤ l.length → ∃ z : Int, l93_1 pu L w ⟨l.length, f, vL l⟩ (Int.ofNat x) (Int.ofNat l.length) (Int.ofNat i) = some (IV z) ∧ nt (ilt z 0) = decide (x ∈ r)
 | _,0,_,_,h,_=>by omega
 | [], w + 1, i, hd, _, hi => by
  refine ⟨-1,?_,rfl⟩
  show b93_1 pu L (l93_1 pu L w) ⟨l.length,f,vL l⟩ (Int.ofNat x) (Int.ofNat l.length) (Int.ofNat i) = _
  have h1:l.length≤i:=List.drop_eq_nil_iff.1 hd
  unfold b93_1
  rw [ilt_nat,show Nat.blt i l.length = false from by rw [blt_eq];simp;omega];rfl
 | y :: r, w + 1, i, hd, hw, hi => by
  obtain ⟨hd2,hi2,_⟩:=drop_next hd
  have hr:(y :: r).length = r.length + 1:=rfl
  have hlt:Nat.blt i l.length = true:=by rw [blt_eq];simp;omega
  obtain ⟨z,z1,z2⟩:=index_loop pu L hl f x r w (i + 1) hd2 (by omega) (by omega)
  have eq:l93_1 pu L (w + 1) ⟨l.length,f,vL l⟩ (Int.ofNat x) (Int.ofNat l.length) (Int.ofNat i) = bb (Nat.beq x y) (some (IV (Int.ofNat i))) (l93_1 pu L w ⟨l.length,f,vL l⟩ (Int.ofNat x) (Int.ofNat l.length) (Int.ofNat (i + 1))):=by
   show b93_1 pu L (l93_1 pu L w) ⟨l.length,f,vL l⟩ (Int.ofNat x) (Int.ofNat l.length) (Int.ofNat i) = _
   unfold b93_1
   rw [ilt_nat,hlt,bb_true,show toN (Int.ofNat i) = some i from rfl,oo_some]
   show bb (an (Nat.blt i l.length) true) (oo (nthL (vL l) (i * 1)) none _) none = _
   rw [hlt,show an true true = true from rfl,bb_true,vL_get hd,oo_some,show ∀ z,toI .i64 (IV z) = some z from fun _=>rfl,oo_some,ieq_nat,wrapS i (by omega)]
  rw [eq]
  cases hb:Nat.beq x y with
  | true =>
   obtain rfl:=Nat.eq_of_beq_eq_true hb
   exact ⟨Int.ofNat i,rfl,by rw [decide_eq_true List.mem_cons_self];rfl⟩
  | false =>
   refine ⟨z,z1,z2.trans ?_⟩
   refine decide_eq_decide.2 ?_
   rw [List.mem_cons]
   exact ⟨fun h=>.inr h,fun h=>h.resolve_left fun e=>by subst e;rw [Nat.beq_refl] at hb;cases hb⟩
theorem p93 (k:Nat) (args:List Value):puN (k + 1) 93 args = m93 (puN k) L args:=by kernel_rfl
theorem p59 (k:Nat) (args:List Value):puN (k + 1) 59 args = m59 (puN k) L args:=by kernel_rfl
theorem pu_contains (k f x:Nat) {l:List Nat} (hl:l.length < 900000):puN (k + 2) 59 [Sl.v 1 ⟨l.length,f,vL l⟩,IV (Int.ofNat x)] = some (.bool (decide (x ∈ l))):=by
 obtain ⟨z,z1,z2⟩:=index_loop (puN k) L hl f x l L 0 List.drop_zero (by show _ < 1000000;omega) (by omega)
 have h93:puN (k + 1) 93 [Sl.v 1 ⟨l.length,f,vL l⟩,IV (Int.ofNat x)] = some (IV z):=by rw [p93];exact z1
 rw [p59]
 show oo (puN (k + 1) 93 [Sl.v 1 ⟨l.length,f,vL l⟩,IV (Int.ofNat x)]) none _ = _
 rw [h93,oo_some,←z2];rfl
end Go.RgP
set_option maxRecDepth 100000
set_option maxHeartbeats 4000000
namespace Go.RgP
open Go Go.Sp Go.RgCM
theorem p27 (k:Nat) (args:List Value):puN (k + 1) 27 args = m27 (puN k) L args:=by kernel_rfl
theorem pu_distances (k f:Nat) {n:Nat} {l:List Nat} (h:Good n l):puN (k + 5) 27 [seaF n f l] = some (tup2 (slv (dists n l)) (IV 0)):=by
 rw [p27]
 show oo (puN (k + 4) 61 [seaF n f l]) none _ = _
 rw [show puN (k + 4) 61 [seaF n f l] = _ from pu_opened (k + 2) f h.pos h.le h.few h.up h.lt,oo_some]
 show oo (puN (k + 4) 74 [tv n (bitsOf l)]) none _ = _
 rw [pu_dists k h,oo_some];rfl
end Go.RgP
set_option maxRecDepth 100000
set_option maxHeartbeats 4000000
namespace Go.RgP
open Go Go.Sp Go.RgCM
theorem markF_add (s : Nat) : ∀ (a b p : Nat), markF s (a + b) p = markF s a p ++ markF s b (p + a)
 | 0,b,p=>by rw [Nat.zero_add];rfl
 | a + 1, b, p => by
  rw [show a + 1 + b = (a + b) + 1 by omega]
  show (bif hasB s p then p :: markF s (a + b) (p + 1) else markF s (a + b) (p + 1)) = (bif hasB s p then p :: markF s a (p + 1) else markF s a (p + 1)) ++ markF s b (p + (a + 1))
  rw [markF_add s a b (p + 1),show p + 1 + a = p + (a + 1) by omega]
  cases hasB s p <;> rfl
theorem markF_shift {s : Nat} (hs : s < 4294967296) (d : Nat) : ∀ (k p : Nat), p + k ≤ 8 → (markF s k (p + d)).length = (markF (s / 2 ^ d % 256) k p).length
 | 0,_,_=>rfl
 | k + 1, p, h => by
  have e:hasB s (p + d) = hasB (s / 2 ^ d % 256) p:=by
   rw [hasB_eq hs,hasB_eq (Nat.lt_of_lt_of_le (Nat.mod_lt _ (by omega)) (by omega)),show (256:Nat) = 2 ^ 8 from rfl,Nat.testBit_mod_two_pow,←Nat.shiftRight_eq_div_pow,Nat.testBit_shiftRight]
   simp [show p < 8 by omega,Nat.add_comm]
  have ih:=markF_shift hs d k (p + 1) (by omega)
  rw [show p + 1 + d = p + d + 1 by omega] at ih
  unfold markF
  rw [e]
  cases hasB (s / 2 ^ d % 256) p with
  | true=>show (markF s k (p + d + 1)).length + 1 = (markF _ k (p + 1)).length + 1;rw [ih]
  | false=>exact ih
noncomputable def popB (b:Nat):Option Nat:=oo (str0[b]?) none fun c=>some c.toNat
theorem pop_tab:mapL popB (List.range 256) = mapL (fun b=>some (len (markF b 8 0))) (List.range 256):=by kernel_rfl
theorem mapL_eq' {α β:Type} (f:α→β) (l:List α):mapL f l = l.map f:=by
 induction l with
 | nil=>rfl
 | cons x l ih=>show f x :: mapL f l = _;rw [ih];rfl
theorem pop_at {b:Nat} (hb:b < 256):∃ c,str0[b]? = some c∧c.toNat = (markF b 8 0).length:=by
 have h:=congrArg (fun l:List (Option Nat)=>l[b]?) pop_tab
 simp only [mapL_eq',List.getElem?_map,List.getElem?_range hb,Option.map_some,len_eq] at h
 injection h with h
 obtain ⟨c,h1,h2⟩:=oo_inv (show oo (str0[b]?) none (fun c=>some c.toNat) = some _ from h)
 injection h2 with h2
 exact ⟨c,h1,h2⟩
theorem p50 (k:Nat) (args:List Value):puN (k + 1) 50 args = m50 (puN k) L args:=by kernel_rfl
theorem wrap8 {a:Nat} (ha:a < 256):wrapF .u8 (Int.ofNat a) = Int.ofNat a:=by
 show Int.ofNat (a % 256) = _
 rw [Nat.mod_eq_of_lt ha]
theorem and255 {a:Nat} (ha:a < 4294967296):aand .u32 (Int.ofNat a) (255:Int) = Int.ofNat (a % 256):=by
 rw [show (255:Int) = Int.ofNat 255 from rfl,aand32 ha (by omega),show (255:Nat) = 2 ^ 8 - 1 from rfl,Nat.and_two_pow_sub_one_eq_mod]
theorem markF_len8 (b:Nat):(markF b 8 0).length≤8:=markF_len b 8 0
theorem pu_ones (k:Nat) {s:Nat} (hs:s < 4294967296):puN (k + 1) 50 [U s] = some (IV (Int.ofNat (marksN 32 s).length)):=by
 rw [p50]
 show m50_ (puN k) L (Int.ofNat s) = _
 unfold m50_
 have d1:s / 2 ^ 16 < 4294967296:=Nat.lt_of_le_of_lt (Nat.div_le_self _ _) hs
 have d2:s / 2 ^ 8 < 4294967296:=Nat.lt_of_le_of_lt (Nat.div_le_self _ _) hs
 have d3:s / 2 ^ 24 < 256:=by omega
 obtain ⟨c0,g0,n0⟩:=pop_at d3
 obtain ⟨c1,g1,n1⟩:=pop_at (b:=s / 2 ^ 16 % 256) (Nat.mod_lt _ (by omega))
 obtain ⟨c2,g2,n2⟩:=pop_at (b:=s / 2 ^ 8 % 256) (Nat.mod_lt _ (by omega))
 obtain ⟨c3,g3,n3⟩:=pop_at (b:=s % 256) (Nat.mod_lt _ (by omega))
 rw [shr32 hs,shr32 hs,shr32 hs,and255 d1,and255 d2,and255 hs]
 show oo (str0[s / 2 ^ 24]?) none _ = _
 rw [g0,oo_some]
 show oo (str0[s / 2 ^ 16 % 256]?) none _ = _
 rw [g1,oo_some]
 show oo (str0[s / 2 ^ 8 % 256]?) none _ = _
 rw [g2,oo_some]
 show oo (str0[s % 256]?) none _ = _
 rw [g3,oo_some,n0,n1,n2,n3]
 have l0:=markF_len8 (s / 2 ^ 24)
 have l1:=markF_len8 (s / 2 ^ 16 % 256)
 have l2:=markF_len8 (s / 2 ^ 8 % 256)
 have l3:=markF_len8 (s % 256)
 show some (IV (wrapF .i64 (wrapF .u8 (Int.add (wrapF .u8 (Int.add (wrapF .u8 (Int.ofNat ((markF (s / 2 ^ 24) 8 0).length + (markF (s / 2 ^ 16 % 256) 8 0).length))) _)) _)))) = _
 rw [wrap8 (by omega)]
 show some (IV (wrapF .i64 (wrapF .u8 (Int.add (wrapF .u8 (Int.ofNat ((markF (s / 2 ^ 24) 8 0).length + (markF (s / 2 ^ 16 % 256) 8 0).length + (markF (s / 2 ^ 8 % 256) 8 0).length))) _)))) = _
 rw [wrap8 (by omega)]
 show some (IV (wrapF .i64 (wrapF .u8 (Int.ofNat ((markF (s / 2 ^ 24) 8 0).length + (markF (s / 2 ^ 16 % 256) 8 0).length + (markF (s / 2 ^ 8 % 256) 8 0).length + (markF (s % 256) 8 0).length))))) = _
 have e:(marksN 32 s).length = (markF (s / 2 ^ 24) 8 0).length + (markF (s / 2 ^ 16 % 256) 8 0).length + (markF (s / 2 ^ 8 % 256) 8 0).length + (markF (s % 256) 8 0).length:=by
  show (markF s (8 + (8 + (8 + 8))) 0).length = _
  rw [markF_add,markF_add,markF_add]
  simp only [List.length_append]
  have q0:=markF_shift hs 0 8 0 (by omega)
  have q1:=markF_shift hs 8 8 0 (by omega)
  have q2:=markF_shift hs 16 8 0 (by omega)
  have q3:=markF_shift hs 24 8 0 (by omega)
  rw [Nat.pow_zero,Nat.div_one] at q0
  rw [show s / 2 ^ 24 % 256 = s / 2 ^ 24 from Nat.mod_eq_of_lt d3] at q3
  simp only [Nat.zero_add] at q0 q1 q2 q3
  show (markF s 8 0).length + ((markF s 8 8).length + ((markF s 8 16).length + (markF s 8 24).length)) = _
  rw [q0,q1,q2,q3];omega
 generalize (markF (s / 2 ^ 24) 8 0).length = a0 at *
 generalize (markF (s / 2 ^ 16 % 256) 8 0).length = a1 at *
 generalize (markF (s / 2 ^ 8 % 256) 8 0).length = a2 at *
 generalize (markF (s % 256) 8 0).length = a3 at *
 rw [wrap8 (by omega),wrapI _ (by simp;omega) (by simp;omega),e]
end Go.RgP
set_option maxRecDepth 100000
set_option maxHeartbeats 4000000
namespace Go.RgP
open Go Go.Sp Go.RgCM
theorem fewer {s t:Nat} (hs:s < 4294967296) (hle:∀ q,t.testBit q = true→s.testBit q = true) (ht:t < s):(marksN 32 t).length < (marksN 32 s).length:=by
 have ht32:t < 4294967296:=by omega
 have e:marksN 32 t = (marksN 32 s).filter fun x=>t.testBit x:=by
  refine sorted_ext (marks_sorted ht32) (List.Pairwise.sublist List.filter_sublist (marks_sorted hs)) fun x=>?_
  rw [mem_marks ht32,List.mem_filter,mem_marks hs]
  exact ⟨fun h=>⟨⟨h.1,hle x h.2⟩,h.2⟩,fun h=>⟨h.1.1,h.2⟩⟩
 rw [e]
 have hle2:=List.filter_sublist (p:=fun x=>t.testBit x) (l:=marksN 32 s)
 refine Nat.lt_of_le_of_ne hle2.length_le fun he=>?_
 have:=hle2.eq_of_length he
 rw [←e] at this
 have h2:∀ q,q < 32→t.testBit q = s.testBit q:=fun q hq=>by
  have hm:q ∈ marksN 32 t↔q ∈ marksN 32 s:=by rw [this]
  rw [mem_marks ht32,mem_marks hs] at hm
  rw [Bool.eq_iff_iff]
  exact ⟨fun h=>(hm.1 ⟨hq,h⟩).2,fun h=>(hm.2 ⟨hq,h⟩).2⟩
 have:=set_ext (n:=32) (a:=t) (b:=s) ht32 hs h2
 omega
theorem stamp_loop (k : Nat) {n : Nat} (hn : n ≤ 21) : ∀ (w s : Nat), s < 2 ^ n → (marksN 32 s).length < w → ∃ t, l46_1 (puN (k + 1)) L w (Int.ofNat n) (Int.ofNat s) = some (tup2 (IV (Int.ofNat n)) (U t)) ∧ t < 2 ^ n ∧ (marksN 32 t).length ≤ 6
 | 0,_,_,h=>by omega
 | w + 1, s, hs, hw => by
  have hs32:=lt32 (by omega) hs
  have hb:l46_1 (puN (k + 1)) L (w + 1) (Int.ofNat n) (Int.ofNat s) = bb (Nat.blt 6 (marksN 32 s).length) (l46_1 (puN (k + 1)) L w (Int.ofNat n) (aand .u32 (Int.ofNat s) (wrapF .u32 (Int.sub (Int.ofNat s) (1:Int))))) (some (tup2 (IV (Int.ofNat n)) (U s))):=by
   show b46_1 (puN (k + 1)) L (l46_1 (puN (k + 1)) L w) (Int.ofNat n) (Int.ofNat s) = _
   unfold b46_1
   show oo (puN (k + 1) 50 [U s]) none _ = _
   rw [pu_ones k hs32,oo_some]
   show bb (ilt (Int.ofNat 6) (Int.ofNat (marksN 32 s).length)) _ _ = _
   rw [ilt_nat];rfl
  rw [hb]
  cases hc:Nat.blt 6 (marksN 32 s).length with
  | false =>
   rw [blt_eq] at hc
   exact ⟨s,rfl,hs,by simpa using hc⟩
  | true =>
   rw [blt_eq] at hc
   have hc:6 < (marksN 32 s).length:=by simpa using hc
   have hs0:0 < s:=by
    rcases Nat.eq_zero_or_pos s with h | h
    ·exfalso
     have:∀ x,x ∉ marksN 32 s:=fun x hx=>by
      have:=((mem_marks hs32).1 hx).2
      rw [h] at this;simp at this
     have:marksN 32 s = []:=List.eq_nil_iff_forall_not_mem.2 this
     rw [this] at hc;simp at hc
    ·exact h
   have hle:s &&& (s - 1)≤s - 1:=Nat.and_le_right
   have e:wrapF .u32 (Int.sub (Int.ofNat s) (1:Int)) = Int.ofNat (s - 1):=by
    rw [show Int.sub (Int.ofNat s) (1:Int) = Int.ofNat (s - 1) from by show (s:Int) - 1 = ((s - 1:Nat):Int);omega]
    exact wrap32 (by omega)
   rw [bb_true,e,aand32 hs32 (by omega)]
   have hf:=fewer (t:=s &&& (s - 1)) hs32 (fun q h=>by rw [Nat.testBit_and] at h;exact (Bool.and_eq_true _ _ ▸ h).1) (by omega)
   exact stamp_loop k hn w (s &&& (s - 1)) (by omega) (by omega)
theorem p46 (k:Nat) (args:List Value):puN (k + 1) 46 args = m46 (puN k) L args:=by kernel_rfl
theorem pu_stamp (k : Nat) {most p b : Nat} (hm0 : 0 < most) (hm : most ≤ 21) (hp : p < 256) (hb : b < 4294967296) : ∃ l, Good (1 + p % most) l ∧
 puN (k + 2) 46 [.agg ⟨[.int .u8 (Int.ofNat p),.int .u32 (Int.ofNat b)]⟩,IV (Int.ofNat most)] = some (tup2 (IV (Int.ofNat (1 + p % most))) (U (bitsOf l))):=by
 have hmod:p % most < most:=Nat.mod_lt _ hm0
 have h2n:2 ^ (1 + p % most) < 4294967296:=Nat.lt_of_le_of_lt (Nat.pow_le_pow_right (by omega) (show 1 + p % most≤21 by omega)) (by decide)
 have hpos:=Nat.two_pow_pos (1 + p % most)
 have hlt:b &&& (2 ^ (1 + p % most) - 1) < 2 ^ (1 + p % most):=by rw [Nat.and_two_pow_sub_one_eq_mod];exact Nat.mod_lt _ hpos
 have hlen:(marksN 32 (b &&& (2 ^ (1 + p % most) - 1))).length≤32:=marks_len
 obtain ⟨t,h1,h2,h3⟩:=stamp_loop k (n:=1 + p % most) (by omega) L (b &&& (2 ^ (1 + p % most) - 1)) hlt (by show _ < 1000000;omega)
 have ht32:=lt32 (n:=1 + p % most) (by omega) h2
 refine ⟨marksN (1 + p % most) t,⟨by omega,by omega,?_,marks_sorted ht32,fun x hx=>((mem_marks ht32).1 hx).1⟩,?_⟩
 ·rw [←marks_more (m:=32) ht32 h2 (by omega)];exact h3
 ·rw [bitsOf_marks (by omega) h2, p46]
  show m46_ (puN (k + 1)) L (Int.ofNat p) (Int.ofNat b) (Int.ofNat most) = _
  unfold m46_
  have e0:ieq (Int.ofNat most) 0 = false:=by rw [show (0:Int) = Int.ofNat 0 from rfl,ieq_nat];exact beq_ne (by omega)
  have e1:wrapF .i64 (Int.add (1:Int) (Int.tmod (wrapF .i64 (Int.ofNat p)) (Int.ofNat most))) = Int.ofNat (1 + p % most):=by
   rw [wrapI (Int.ofNat p) (by show (-9223372036854775808:Int)≤(p:Int);omega) (by show (p:Int)≤9223372036854775807;omega)]
   show wrapF .i64 ((1:Int) + Int.tmod (p:Int) (most:Int)) = (((1 + p % most:Nat)):Int)
   rw [Int.tmod_eq_emod_of_nonneg (by omega),←Int.natCast_emod,wrapI _ (by omega) (by omega)];omega
  rw [e0,show nt false = true from rfl,bb_true,e1]
  show oo (toN (Int.ofNat (1 + p % most))) none _ = _
  rw [show ∀ j,toN (Int.ofNat j) = some j from fun _=>rfl,oo_some,shl32 (by omega)]
  have e2:wrapF .u32 (Int.sub (Int.ofNat (2 ^ (1 + p % most))) (1:Int)) = Int.ofNat (2 ^ (1 + p % most) - 1):=by
   rw [show Int.sub (Int.ofNat (2 ^ (1 + p % most))) (1:Int) = Int.ofNat (2 ^ (1 + p % most) - 1) from by show ((2 ^ (1 + p % most):Nat):Int) - 1 = ((2 ^ (1 + p % most) - 1:Nat):Int);omega]
   exact wrap32 (by omega)
  rw [e2,aand32 hb (by omega),h1]
end Go.RgP
