/- Words. -/
import Derived.Test.YtenlanbdolnhhaaRgFT3x

set_option maxRecDepth 100000
set_option maxHeartbeats 4000000
namespace Go.RgP
open Go Go.Sp Go.RgFM
noncomputable def slv (l:List Nat):Value:=Sl.v 1 ⟨l.length,0,vL l⟩
def U (s:Nat):Value:=.int .u32 (Int.ofNat s)
theorem vL_snoc (q:List Nat) (p:Nat):appL (dropL 0 (vL q)) [.int .i64 (Int.ofNat p)] = vL (q ++ [p]):=by
 rw [appL_eq,dropL_eq,List.drop_zero];unfold vL;rw [List.map_append];rfl
theorem grow_vL {q:List Nat} {c:Nat} (hq:q.length≤2000) (hc:c / 2 = q.length) (hc2:c % 2 = 0):growC 1 8 q.length c 1 (vL q) = true:=by
 unfold growC roomy
 rw [len_eq,vL_len,hc,hc2]
 rw [show Nat.ble ((4 * (q.length + 1) + 4096) * 8) 281474976710656 = true from Nat.ble_eq_true_of_le (by omega),show Nat.ble (q.length + 1) q.length = false from by rw [ble_eq];simp,show Nat.ble (0 + q.length * 1) q.length = true from Nat.ble_eq_true_of_le (by omega),show Nat.beq (0 + q.length * 1) q.length = true from by simp]
 rfl
theorem fin_vL (q:List Nat):bb (an (Nat.ble (0 + q.length * 1) (len (vL q))) (allL closed1 (takeL (q.length * 1) (dropL 0 (vL q))))) (some (Sl.v 1 (Sl.mk q.length 0 (takeL (q.length * 1) (dropL 0 (vL q)))))) none = some (slv q):=by
 have e1:takeL (q.length * 1) (dropL 0 (vL q)) = vL q:=by
  rw [takeL_eq,dropL_eq,List.drop_zero,Nat.mul_one,←vL_len q,List.take_length]
 rw [e1,vL_closed,len_eq,vL_len,show Nat.ble (0 + q.length * 1) q.length = true from Nat.ble_eq_true_of_le (by omega)];rfl
theorem marks_len {n s:Nat}:(marksN n s).length≤n:=markF_len s n 0
def iLI (l:List Int):List Value:=l.map IV
theorem vL_iLI (l:List Nat):vL l = iLI (l.map Int.ofNat):=by unfold vL iLI;rw [List.map_map];rfl
theorem iLI_get {l:List Int} {i:Nat} {b:Int} {r:List Int} (h:l.drop i = b :: r):nthL (iLI l) (i * 1) = some (IV b):=by
 rw [nthL_eq,Nat.mul_one]
 have:l[i]? = some b:=by
  have:=congrArg List.head? h
  rw [List.head?_drop] at this;exact this
 unfold iLI
 rw [List.getElem?_map,this];rfl
theorem dropI_next {l:List Int} {i:Nat} {b:Int} {r:List Int} (h:l.drop i = b :: r):l.drop (i + 1) = r∧i < l.length∧b ∈ l:=by
 refine ⟨?_,?_,?_⟩
 ·rw [←List.drop_drop,h];rfl
 ·have := congrArg List.length h
  simp at this;omega
 ·have : b ∈ l.drop i := by rw [h]; exact List.mem_cons_self
  exact List.mem_of_mem_drop this
noncomputable def chk (n : Int) : List Int → Int → Int
 | [],_=>0
 | m :: r,last=>bif ilt m 0 then 2 else bif nt (ilt m n) then 2 else bif nt (ilt last m) then 7 else chk n r m
noncomputable def checkI (n:Int) (l:List Int):Int:=bif ilt n 1 then 1 else bif ilt 21 n then 1 else bif Nat.blt 6 l.length then 3 else chk n l (-1)
noncomputable def slI (f:Nat) (l:List Int):Value:=Sl.v 1 ⟨l.length,f,iLI l⟩
theorem slv_slI (l:List Nat):slv l = slI 0 (l.map Int.ofNat):=by unfold slv slI;rw [vL_iLI,List.length_map]
theorem chk_zero {n : Nat} : ∀ {r : List Int} {last : Int}, -1 ≤ last → chk (Int.ofNat n) r last = 0 → ∃ m : List Nat, r = m.map Int.ofNat ∧ m.Pairwise (· < ·) ∧ (∀ x ∈ m, x < n) ∧ ∀ x ∈ m, last < (x : Int)
 | [],_,_,_=>⟨[],rfl,.nil,fun x hx=>by (cases hx),fun x hx=>by (cases hx)⟩
 | x :: r, last, hl, h => by
  have h:(bif ilt x 0 then (2:Int) else bif nt (ilt x (Int.ofNat n)) then 2 else bif nt (ilt last x) then 7 else chk (Int.ofNat n) r x) = 0:=h
  rw [ilt_eq,ilt_eq,ilt_eq] at h
  by_cases h1:x < 0
  ·rw [decide_eq_true h1] at h;cases h
  ·rw [decide_eq_false h1] at h
   by_cases h2:x < Int.ofNat n
   ·rw [decide_eq_true h2] at h
    by_cases h3:last < x
    ·rw [decide_eq_true h3] at h
     obtain ⟨m,e,a1,a2,a3⟩:=chk_zero (r:=r) (last:=x) (by omega) h
     have h2:x < (n:Int):=h2
     refine ⟨x.toNat :: m,by rw [e,List.map_cons];congr 1;show x = ((x.toNat:Nat):Int);omega,List.pairwise_cons.2 ⟨fun y hy=>by have:=a3 y hy;omega,a1⟩,fun y hy=>?_,fun y hy=>?_⟩
     ·rcases List.mem_cons.1 hy with rfl | hy
      ·omega
      ·exact a2 y hy
     ·rcases List.mem_cons.1 hy with rfl | hy
      ·omega
      ·have:=a3 y hy;omega
    ·rw [decide_eq_false h3] at h;cases h
   ·rw [decide_eq_false h2] at h;cases h
theorem chk_ok {n : Nat} : ∀ {m : List Nat} {last : Int}, -1 ≤ last → m.Pairwise (· < ·) → (∀ x ∈ m, x < n) → (∀ x ∈ m, last < (x : Int)) → chk (Int.ofNat n) (m.map Int.ofNat) last = 0
 | [],_,_,_,_,_=>rfl
 | x :: m, last, hl, h1, h2, h3 => by
  obtain ⟨p1,p2⟩:=List.pairwise_cons.1 h1
  have a1:=h2 x List.mem_cons_self
  have a2:=h3 x List.mem_cons_self
  show (bif ilt (x:Int) 0 then (2:Int) else bif nt (ilt (x:Int) (n:Int)) then 2 else bif nt (ilt last (x:Int)) then 7 else chk (Int.ofNat n) (m.map Int.ofNat) (x:Int)) = 0
  rw [ilt_eq,ilt_eq,ilt_eq,decide_eq_false (show ¬ (x:Int) < 0 by omega),decide_eq_true (show (x:Int) < (n:Int) by omega),decide_eq_true a2]
  exact chk_ok (by omega) p2 (fun y hy=>h2 y (List.mem_cons_of_mem _ hy)) fun y hy=>by have:=p1 y hy;omega
theorem checkI_ok {n:Nat} {m:List Nat} (hn0:0 < n) (hn:n≤21) (hl:m.length≤6) (h1:m.Pairwise (· < ·)) (h2:∀ x ∈ m,x < n):checkI (Int.ofNat n) (m.map Int.ofNat) = 0:=by
 show (bif ilt (Int.ofNat n) (Int.ofNat 1) then (1:Int) else bif ilt (Int.ofNat 21) (Int.ofNat n) then 1 else bif Nat.blt 6 (m.map Int.ofNat).length then 3 else chk (Int.ofNat n) (m.map Int.ofNat) (-1)) = 0
 rw [ilt_nat,ilt_nat,blt_eq,blt_eq,blt_eq,List.length_map,decide_eq_false (by omega),decide_eq_false (by omega),decide_eq_false (by omega)]
 exact chk_ok (last:=-1) (Int.le_refl _) h1 h2 fun x _=>by omega
theorem checkI_inv {n:Int} {l:List Int} (h:checkI n l = 0):∃ (k:Nat) (m:List Nat),n = Int.ofNat k∧l = m.map Int.ofNat∧0 < k∧k≤21∧m.length≤6∧m.Pairwise (· < ·)∧∀ x ∈ m,x < k:=by
 unfold checkI at h
 rw [ilt_eq,ilt_eq,blt_eq] at h
 by_cases h1:n < 1
 ·rw [decide_eq_true h1] at h;cases h
 ·rw [decide_eq_false h1] at h
  by_cases h2:21 < n
  ·rw [decide_eq_true h2] at h;cases h
  ·rw [decide_eq_false h2] at h
   by_cases h3:6 < l.length
   ·rw [decide_eq_true h3] at h;cases h
   ·rw [decide_eq_false h3] at h
    have e:n = Int.ofNat n.toNat:=by show n = ((n.toNat:Nat):Int);omega
    rw [e] at h
    obtain ⟨m,rfl,a1,a2,_⟩:=chk_zero (last:=-1) (Int.le_refl _) (show chk (Int.ofNat n.toNat) l (-1) = 0 from h)
    exact ⟨n.toNat,m,e,rfl,by omega,by omega,by simpa using h3,a1,a2⟩
def bitsOf (l:List Nat):Nat:=setOf (fun p=>p) l 0
theorem bitsOf_bit (l:List Nat) (q:Nat):(bitsOf l).testBit q = decide (q ∈ l):=by
 unfold bitsOf
 rw [setOf_bit,Nat.zero_testBit,Bool.false_or,Bool.eq_iff_iff]
 simp only [List.any_eq_true,decide_eq_true_eq]
 exact ⟨fun ⟨p,hp,e⟩=>e ▸ hp,fun h=>⟨q,h,rfl⟩⟩
theorem bitsOf_lt {n:Nat} {l:List Nat} (h:∀ x ∈ l,x < n):bitsOf l < 2 ^ n:=setOf_lt _ (Nat.two_pow_pos n) h
theorem marks_bitsOf {n:Nat} (hn:n≤31) {l:List Nat} (h1:l.Pairwise (· < ·)) (h2:∀ x ∈ l,x < n):marksN n (bitsOf l) = l:=by
 have h:=lt32 hn (bitsOf_lt h2)
 refine sorted_ext (marks_sorted h) h1 fun x=>?_
 rw [mem_marks h,bitsOf_bit,decide_eq_true_eq]
 exact ⟨fun h=>h.2,fun h=>⟨h2 x h,h⟩⟩
theorem bitsOf_marks {n s:Nat} (hn:n≤31) (hs:s < 2 ^ n):bitsOf (marksN n s) = s:=by
 have hs32:=lt32 hn hs
 refine set_ext (n:=n) (bitsOf_lt fun x hx=>((mem_marks hs32).1 hx).1) hs fun q hq=>?_
 rw [bitsOf_bit,Bool.eq_iff_iff,decide_eq_true_eq,mem_marks hs32]
 exact ⟨fun h=>h.2,fun h=>⟨hq,h⟩⟩
noncomputable def tup2 (a b:Value):Value:=.tuple ⟨[a,b]⟩
structure Good (n:Nat) (l:List Nat):Prop where
 pos:0 < n
 le:n≤21
 few:l.length≤6
 up:l.Pairwise (· < ·)
 lt:∀ x ∈ l,x < n
noncomputable def seaF (n f:Nat) (l:List Nat):Value:=.agg ⟨[IV (Int.ofNat n),Sl.v 1 ⟨l.length,f,vL l⟩]⟩
theorem dists_len (n:Nat) (l:List Nat):(dists n l).length = n - 1:=by unfold dists;simp
theorem dists_get {n:Nat} {l:List Nat} {i:Nat} (hi:i < n - 1):(dists n l)[i]? = some (cntD n l (i + 1)):=by unfold dists;simp [hi]
theorem Good.lt32 {n:Nat} {l:List Nat} (h:Good n l):bitsOf l < 4294967296:=Go.RgP.lt32 (n:=n) (by have:=h.le;omega) (bitsOf_lt h.lt)
theorem Good.marks {n:Nat} {l:List Nat} (h:Good n l):marksN n (bitsOf l) = l:=marks_bitsOf (by have:=h.le;omega) h.up h.lt
theorem pu_clashes (k:Nat) {n:Nat} {l:List Nat} (h:Good n l):puN (k + 4) 76 [tv n (bitsOf l)] = some (IV (Int.ofNat (firstD n l))):=by
 have h2:=h.le
 have:=pu_clash k (n:=n) (s:=bitsOf l) h.pos (by omega)
 rw [clashN_eq h.lt32,h.marks] at this
 exact this
end Go.RgP
set_option maxRecDepth 100000
set_option maxHeartbeats 2000000
namespace Go.RgP
open Go Go.Sp
def lexB : List Nat → List Nat → Bool
 | [],[]=>false
 | [],_ :: _=>true
 | _ :: _,[]=>false
 | x :: a,y :: b=>bif Nat.beq x y then lexB a b else Nat.blt x y
theorem lexB_cons (x y:Nat) (a b:List Nat):lexB (x :: a) (y :: b) = (bif Nat.beq x y then lexB a b else Nat.blt x y):=rfl
theorem lexB_irr : ∀ a : List Nat, lexB a a = false
 | []=>rfl
 | x :: a=>by rw [lexB_cons,Nat.beq_refl];exact lexB_irr a
theorem lexB_trans : ∀ {a b c : List Nat}, lexB a b = true → lexB b c = true → lexB a c = true
 | [],[],_,h,_=>by cases h
 | [],_ :: _,[],_,h=>by cases h
 | [],_ :: _,_ :: _,_,_=>rfl
 | _ :: _,[],_,h,_=>by cases h
 | _ :: _,_ :: _,[],_,h=>by cases h
 | x :: a, y :: b, z :: c, h, h' => by
  rw [lexB_cons,beq_dec,blt_eq] at *
  by_cases h1:x = y
  ·by_cases h2 : y = z
   ·rw [decide_eq_true h1] at h; rw [decide_eq_true h2] at h'
    rw [decide_eq_true (h1.trans h2)]
    exact lexB_trans (show lexB a b = true from h) (show lexB b c = true from h')
   ·rw [decide_eq_false h2] at h'
    rw [decide_eq_false (by omega)]
    have:y < z:=of_decide_eq_true h'
    exact decide_eq_true (show x < z by omega)
  ·rw [decide_eq_false h1] at h
   have h3:x < y:=of_decide_eq_true h
   by_cases h2:y = z
   ·rw [decide_eq_false (show ¬ x = z by omega)]
    exact decide_eq_true (show x < z by omega)
   ·rw [decide_eq_false h2] at h'
    have h4:y < z:=of_decide_eq_true h'
    rw [decide_eq_false (show ¬ x = z by omega)]
    exact decide_eq_true (show x < z by omega)
theorem lexB_tot : ∀ {a b : List Nat}, lexB a b = false → lexB b a = false → a = b
 | [],[],_,_=>rfl
 | [],_ :: _,h,_=>by cases h
 | _ :: _,[],_,h=>by cases h
 | x :: a, y :: b, h, h' => by
  rw [lexB_cons,beq_dec,blt_eq] at *
  by_cases h1:x = y
  ·rw [decide_eq_true h1] at h; rw [decide_eq_true h1.symm] at h'
   rw [h1,lexB_tot (show lexB a b = false from h) (show lexB b a = false from h')]
  ·rw [decide_eq_false h1] at h; rw [decide_eq_false (Ne.symm h1)] at h'
   have h2:¬ x < y:=of_decide_eq_false h
   have h3:¬ y < x:=of_decide_eq_false h'
   omega
def minL (b:List Nat) (cs:List (List Nat)):List Nat:=cs.foldl (fun b c=>bif lexB c b then c else b) b
def LeastIn (S:List Nat→Prop) (x:List Nat):Prop:=S x∧∀ c,S c→lexB c x = false
theorem LeastIn.uniq {S:List Nat→Prop} {x y:List Nat} (h:LeastIn S x) (h':LeastIn S y):x = y:=lexB_tot (h'.2 x h.1) (h.2 y h'.1)
theorem minL_least : ∀ (cs : List (List Nat)) (b : List Nat), LeastIn (fun c => c = b ∨ c ∈ cs) (minL b cs)
 | [], b => ⟨.inl rfl, fun c h => by
  rcases h with rfl | h
  ·exact lexB_irr _
  ·cases h⟩
 | c :: cs, b => by
  have h:=minL_least cs (bif lexB c b then c else b)
  show LeastIn _ (minL (bif lexB c b then c else b) cs)
  have hall:∀ x,x = b∨x ∈ c :: cs→lexB x (minL (bif lexB c b then c else b) cs) = false:=by
   intro x hx
   have hb:lexB (bif lexB c b then c else b) (minL (bif lexB c b then c else b) cs) = false:=h.2 _ (.inl rfl)
   have key:∀ y,lexB (bif lexB c b then c else b) y = true∨y = (bif lexB c b then c else b)→lexB y (minL (bif lexB c b then c else b) cs) = false:=by
    intro y hy
    rcases hy with hy | rfl
    ·cases hlt : lexB y (minL (bif lexB c b then c else b) cs) with
     | false=>rfl
     | true=>have:=lexB_trans hy hlt;rw [hb] at this;cases this
    ·exact hb
   rcases hx with rfl | hx
   ·cases hc : lexB c x with
    | true=>exact hc ▸ key x (by rw [hc];exact .inl hc)
    | false=>exact hc ▸ key x (by rw [hc];exact .inr rfl)
   ·rcases List.mem_cons.1 hx with rfl | hx
    ·cases hc : lexB x b with
     | true=>exact hc ▸ key x (by rw [hc];exact .inr rfl)
     | false =>
      refine hc ▸ key x ?_
      rw [hc]
      cases hb2:lexB b x with
      | true=>exact .inl hb2
      | false=>exact .inr (lexB_tot hc hb2)
    ·exact h.2 x (.inr hx)
  refine ⟨?_,hall⟩
  rcases h.1 with h1 | h1
  ·rw [h1]
   cases lexB c b with
   | true=>exact .inr List.mem_cons_self
   | false=>exact .inl rfl
  ·exact .inr (List.mem_cons_of_mem _ h1)
def turnsOf (n s:Nat) (c:List Nat):Prop:=∃ b,b < n∧c = marksN n (turnN n s b)
noncomputable def minT (n s:Nat):List Nat:=minL (marksN n (turnN n s 0)) ((List.range (n - 1)).map fun i=>marksN n (turnN n s (i + 1)))
theorem minT_least {n s:Nat} (hn:0 < n):LeastIn (turnsOf n s) (minT n s):=by
 have h:=minL_least ((List.range (n - 1)).map fun i=>marksN n (turnN n s (i + 1))) (marksN n (turnN n s 0))
 have e:∀ c,turnsOf n s c↔(c = marksN n (turnN n s 0)∨c ∈ (List.range (n - 1)).map fun i=>marksN n (turnN n s (i + 1))):=fun c=>by
  constructor
  ·rintro ⟨b, hb, rfl⟩
   cases b with
   | zero=>exact .inl rfl
   | succ b=>exact .inr (List.mem_map.2 ⟨b,List.mem_range.2 (by omega),rfl⟩)
  ·rintro (rfl | h)
   ·exact ⟨0,hn,rfl⟩
   ·obtain ⟨i, hi, rfl⟩ := List.mem_map.1 h
    exact ⟨i + 1,by have:=List.mem_range.1 hi;omega,rfl⟩
 exact ⟨(e _).2 h.1,fun c hc=>h.2 c ((e c).1 hc)⟩
theorem turn_zero {n s:Nat} (hn0:0 < n) (hn:n≤31) (hs:s < 2 ^ n):turnN n s 0 = s:=by
 refine set_ext turn_lt hs fun q hq=>?_
 rw [turn_bit hn hs hn0,decide_eq_true hq,Bool.true_and,Nat.sub_zero,Nat.add_mod_right,Nat.mod_eq_of_lt hq]
theorem turn_turn {n s a b:Nat} (hn:n≤31) (hs:s < 2 ^ n) (ha:a < n) (hb:b < n):turnN n (turnN n s a) b = turnN n s ((a + b) % n):=by
 refine set_ext turn_lt turn_lt fun q hq=>?_
 have h1:(q + (n - b)) % n < n:=Nat.mod_lt _ (by omega)
 rw [turn_bit hn turn_lt hb,turn_bit hn hs ha,turn_bit hn hs (Nat.mod_lt _ (by omega)),decide_eq_true hq,decide_eq_true h1,Bool.true_and,Bool.true_and,Bool.true_and]
 congr 1
 have e1:(q + (n - b)) % n = if b≤q then q - b else q + (n - b):=by
  split
  ·rw [show q + (n - b) = (q - b) + n by omega,Nat.add_mod_right,Nat.mod_eq_of_lt (by omega)]
  ·exact Nat.mod_eq_of_lt (by omega)
 rw [mod_add ha hb,e1]
 have h2:∀ x y:Nat,x < n + n→y < n + n→(x = y∨x = y + n∨y = x + n)→x % n = y % n:=by
  intro x y _ _ h
  rcases h with rfl | rfl | rfl
  ·rfl
  ·rw [Nat.add_mod_right]
  ·rw [Nat.add_mod_right]
 apply h2 <;> (repeat' split) <;> omega
def reachN (n s o:Nat):Option Nat:=(List.range n).find? fun b=>Nat.beq (turnN n s b) o
end Go.RgP
set_option maxRecDepth 100000
set_option maxHeartbeats 2000000
namespace Go.RgP
open Go Go.Sp
theorem injC {n m:Nat} (hn:0 < n) (hg:Nat.gcd m n = 1) {x y:Nat} (hx:x < n) (hy:y < n) (h:plc n ((x:Int) * (m:Int) + 0) = plc n ((y:Int) * (m:Int) + 0)):x = y:=by
 have e:∀ z:Nat,plc n ((z:Int) * (m:Int) + 0) = (z * m) % n:=fun z=>by
  rw [Int.add_zero,←Int.natCast_mul,plc_nat]
 rw [e,e] at h
 have hc:Nat.Coprime n m:=by show Nat.gcd n m = 1;rw [Nat.gcd_comm];exact hg
 have key:∀ a b:Nat,a≤b→b < n→(b * m) % n = (a * m) % n→b = a:=fun a b hab hb hh=>by
  have h1:=Nat.sub_mod_eq_zero_of_mod_eq hh
  rw [←Nat.sub_mul] at h1
  have h2:n ∣ b - a:=hc.dvd_of_dvd_mul_right (Nat.dvd_of_mod_eq_zero h1)
  rcases Nat.eq_zero_or_pos (b - a) with h3 | h3
  ·omega
  ·have:=Nat.le_of_dvd h3 h2;omega
 rcases Nat.le_total x y with hxy | hxy
 ·exact (key x y hxy hy h.symm).symm
 ·exact key y x hxy hx h
theorem marks_inj {n s t:Nat} (hn:n≤31) (hs:s < 2 ^ n) (ht:t < 2 ^ n) (h:marksN n s = marksN n t):s = t:=by
 rw [←bitsOf_marks hn hs,h,bitsOf_marks hn ht]
theorem turn_back {n s a:Nat} (hn:n≤31) (hs:s < 2 ^ n) (ha:a < n):turnN n (turnN n s a) ((n - a) % n) = s:=by
 have h0:0 < n:=by omega
 rw [turn_turn hn hs ha (Nat.mod_lt _ h0)]
 have:(a + (n - a) % n) % n = 0:=by
  by_cases h:a = 0
  ·subst h;rw [Nat.sub_zero,Nat.mod_self,Nat.zero_mod]
  ·rw [Nat.mod_eq_of_lt (show n - a < n by omega),show a + (n - a) = n by omega,Nat.mod_self]
 rw [this,turn_zero h0 hn hs]
theorem minT_turn {n s a:Nat} (hn:n≤31) (hs:s < 2 ^ n) (ha:a < n):minT n (turnN n s a) = minT n s:=by
 have h0:0 < n:=by omega
 refine LeastIn.uniq (S:=turnsOf n s) ?_ (minT_least h0)
 have h:=minT_least (s:=turnN n s a) h0
 have hto:∀ c,turnsOf n s c→turnsOf n (turnN n s a) c:=by
  rintro c ⟨b,hb,rfl⟩
  refine ⟨((n - a) % n + b) % n,Nat.mod_lt _ h0,?_⟩
  rw [←turn_turn hn turn_lt (Nat.mod_lt _ h0) hb,turn_back hn hs ha]
 refine ⟨?_,fun c hc=>h.2 c (hto c hc)⟩
 obtain ⟨b,hb,e⟩:=h.1
 exact ⟨(a + b) % n,Nat.mod_lt _ h0,by rw [e,turn_turn hn hs ha hb]⟩
theorem reach_iff {n s t:Nat} (hn:n≤31) (h0:0 < n) (hs:s < 2 ^ n) (ht:t < 2 ^ n):(reachN n t s).isSome = decide (minT n t = minT n s):=by
 rw [Bool.eq_iff_iff,decide_eq_true_eq]
 unfold reachN
 rw [List.find?_isSome]
 constructor
 ·rintro ⟨b, hb, h⟩
  have hb:=List.mem_range.1 hb
  have h:turnN n t b = s:=Nat.eq_of_beq_eq_true h
  rw [←h,minT_turn hn ht hb]
 ·intro h
  obtain ⟨a,ha,e1⟩:=(minT_least (s:=t) h0).1
  obtain ⟨b,hb,e2⟩:=(minT_least (s:=s) h0).1
  have e:=marks_inj hn turn_lt turn_lt (e1.symm.trans (h.trans e2))
  refine ⟨(a + (n - b) % n) % n,List.mem_range.2 (Nat.mod_lt _ h0),?_⟩
  have hb2:(n - b) % n < n:=Nat.mod_lt _ h0
  rw [←turn_turn hn ht ha hb2,e,turn_back hn hs hb,Nat.beq_refl]
theorem cntD_perm {n:Nat} {l l':List Nat} (h:l.Perm l') (d:Nat):cntD n l d = cntD n l' d:=by
 unfold cntD
 have e:(fun a=>decide ((a + d) % n ∈ l)) = fun a=>decide ((a + d) % n ∈ l'):=by
  funext a
  exact decide_eq_decide.2 h.mem_iff
 rw [e];exact h.countP_eq _
theorem firstD_perm {n:Nat} {l l':List Nat} (h:l.Perm l'):firstD n l = firstD n l':=by
 unfold firstD
 congr 2
 funext d
 rw [cntD_perm h d]
theorem more_perm {n s p:Nat} (hn:n≤31) (hs:s < 2 ^ n) (hp:p < n) (hb:s.testBit p = false):(marksN n s ++ [p]).Perm (marksN n (s ||| 2 ^ p)):=by
 have h1:=lt32 hn hs
 have h2:=lt32 hn (Nat.or_lt_two_pow hs (Nat.pow_lt_pow_right (a:=2) (by omega) hp))
 refine (List.perm_ext_iff_of_nodup ?_ (nodup_of_lt (marks_sorted h2))).2 fun x=>?_
 ·refine List.nodup_append.2 ⟨nodup_of_lt (marks_sorted h1), by simp, fun a ha b hb2 e => ?_⟩
  have:b = p:=by simpa using hb2
  subst this;subst e
  rw [((mem_marks h1).1 ha).2] at hb;cases hb
 ·rw [List.mem_append, mem_marks h1, mem_marks h2, Nat.testBit_or, Nat.testBit_two_pow]
  simp only [List.mem_singleton,Bool.or_eq_true,decide_eq_true_eq]
  constructor
  ·rintro (⟨a, b⟩ | rfl)
   ·exact ⟨a,.inl b⟩
   ·exact ⟨hp,.inr rfl⟩
  ·rintro ⟨a, b | b⟩
   ·exact .inl ⟨a,b⟩
   ·exact .inr b.symm
theorem setOf_few (f:Nat→Nat) {n:Nat} (hn:n≤31) {l:List Nat} (h:∀ x ∈ l,f x < n):(marksN n (setOf f l 0)).length≤l.length:=by
 have hz:=lt32 hn (setOf_lt f (l:=l) (Nat.two_pow_pos n) h)
 have:=List.Nodup.length_le_of_subset (nodup_of_lt (marks_sorted (n:=n) hz)) (l₂:=l.map f) fun x hx=>by
  have:=((mem_marks hz).1 hx).2
  rw [setOf_bit,Nat.zero_testBit,Bool.false_or] at this
  obtain ⟨a,ha,e⟩:=List.any_eq_true.1 this
  exact List.mem_map.2 ⟨a,ha,of_decide_eq_true e⟩
 rw [List.length_map] at this;exact this
theorem good_marks {n t:Nat} (h0:0 < n) (hn:n≤21) (ht:t < 2 ^ n) (hf:(marksN n t).length≤6):Good n (marksN n t):=by
 have h:=lt32 (n:=n) (by omega) ht
 exact ⟨h0,hn,hf,marks_sorted h,fun x hx=>((mem_marks h).1 hx).1⟩
end Go.RgP
set_option maxRecDepth 100000
set_option maxHeartbeats 4000000
namespace Go.RgP
open Go Go.Sp Go.RgFM
theorem tmodN (a d:Nat):ieq (Int.tmod (Int.ofNat a) (Int.ofNat d)) (0:Int) = Nat.beq (a % d) 0:=by
 have:Int.tmod (Int.ofNat a) (Int.ofNat d) = Int.ofNat (a % d):=by
  show Int.tmod (a:Int) (d:Int) = ((a % d:Nat):Int)
  rw [Int.tmod_eq_emod_of_nonneg (by omega),←Int.natCast_emod]
 rw [this];exact ieq_nat _ 0
theorem prime_loop (pu : PureF) (L : Nat) {a b : Nat} (ha : 0 < a) (hb : 0 < b) (ha2 : a < 1000) : ∀ (w d : Nat), a + 3 < w + d → 2 ≤ d → d ≤ a + 2 → (∀ e, 2 ≤ e → e < d → ¬ (e ∣ a ∧ e ∣ b)) →
 l89_1 pu L w (Int.ofNat a) (Int.ofNat b) (Int.ofNat d) = some (.bool (decide (Nat.gcd a b = 1)))
 | 0, d, hw, h2, hd, hno => by
  exfalso
  omega
 | w + 1, d, hw, h2, hd, hno => by
  show b89_1 pu L (l89_1 pu L w) (Int.ofNat a) (Int.ofNat b) (Int.ofNat d) = _
  have hmin:bb (ilt (Int.ofNat b) (Int.ofNat a)) (Int.ofNat b) (Int.ofNat a) = Int.ofNat (min a b):=by
   rw [ilt_nat,blt_eq]
   by_cases h:b < a
   ·rw [decide_eq_true h,bb_true,Nat.min_eq_right (by omega)]
   ·rw [decide_eq_false h,bb_false,Nat.min_eq_left (by omega)]
  have hne:ieq (Int.ofNat d) 0 = false:=by rw [show (0:Int) = Int.ofNat 0 from rfl,ieq_nat];exact beq_ne (by omega)
  unfold b89_1
  rw [hmin,ilt_nat,blt_eq]
  by_cases h:min a b < d
  ·rw [decide_eq_true h, show nt true = false from rfl, bb_false]
   have:Nat.gcd a b = 1:=by
    have h1:=Nat.gcd_dvd_left a b
    have h2':=Nat.gcd_dvd_right a b
    have h3:=Nat.le_of_dvd ha h1
    have h4:=Nat.le_of_dvd hb h2'
    have h5:0 < Nat.gcd a b:=Nat.gcd_pos_of_pos_left b ha
    refine Nat.le_antisymm (Nat.le_of_not_lt fun h6=>hno (Nat.gcd a b) h6 ?_ ⟨h1,h2'⟩) h5
    have:Nat.gcd a b≤min a b:=by omega
    omega
   rw [decide_eq_true this];rfl
  ·rw [decide_eq_false h, show nt false = true from rfl, bb_true, hne, show nt false = true from rfl, bb_true, bb_true, tmodN, tmodN]
   have hs:wrapF .i64 (Int.add (Int.ofNat d) 1) = Int.ofNat (d + 1):=wrapS d (by omega)
   have hdvd:∀ z,Nat.beq (z % d) 0 = decide (d ∣ z):=fun z=>by rw [beq_dec];exact decide_eq_decide.2 ⟨Nat.dvd_of_mod_eq_zero,Nat.mod_eq_zero_of_dvd⟩
   rw [hdvd,hdvd]
   have go:¬ (d ∣ a∧d ∣ b)→m89_2 pu L (l89_1 pu L w) (Int.ofNat a) (Int.ofNat b) (Int.ofNat d) false = some (.bool (decide (Nat.gcd a b = 1))):=fun hn=>by
    unfold m89_2
    rw [bb_false,hs]
    exact prime_loop pu L ha hb ha2 w (d + 1) (by omega) (by omega) (by omega) fun e e1 e2=>by
     by_cases he:e = d
     ·subst he;exact hn
     ·exact hno e e1 (by omega)
   by_cases h1:d ∣ a
   ·rw [decide_eq_true h1, bb_true]
    by_cases h3:d ∣ b
    ·rw [decide_eq_true h3]
     have:¬ Nat.gcd a b = 1:=fun e=>by
      have:=Nat.dvd_gcd h1 h3
      rw [e] at this
      have:=Nat.le_of_dvd (by omega) this
      omega
     rw [decide_eq_false this];rfl
    ·rw [decide_eq_false h3];exact go fun h=>h3 h.2
   ·rw [decide_eq_false h1,bb_false];exact go fun h=>h1 h.1
theorem p89 (k:Nat) (args:List Value):puN (k + 1) 89 args = m89 (puN k) L args:=by kernel_rfl
theorem pu_prime (k:Nat) {a b:Nat} (ha:0 < a) (hb:0 < b) (ha2:a < 1000):puN (k + 1) 89 [IV (Int.ofNat a),IV (Int.ofNat b)] = some (.bool (decide (Nat.gcd a b = 1))):=by
 rw [p89]
 exact prime_loop (puN k) L ha hb ha2 L 2 (by show _ < 1000000 + 2;omega) (by omega) (by omega) fun e e1 e2=>by omega
end Go.RgP
set_option maxRecDepth 100000
set_option maxHeartbeats 4000000
namespace Go.RgP
open Go Go.Sp Go.RgFM
theorem on_any (pu:PureF) (L n s:Nat) (x:Int) (hn:0 < n) (hn2:n < 1000):m62 pu L [tv n s,IV x] = some (IV (Int.ofNat (plc n x))):=by
 show m62_ pu L (Int.ofNat n) (Int.ofNat s) x = _
 unfold m62_
 have e:ieq (Int.ofNat n) 0 = false:=by rw [show (0:Int) = Int.ofNat 0 from rfl,ieq_nat];exact beq_ne (by omega)
 rw [e]
 show some (IV (Int.tmod (wrapF .i64 (Int.tmod x (n:Int) + (n:Int))) (n:Int))) = some (IV ((plc n x:Nat):Int))
 have hp:(0:Int) < (n:Int):=by omega
 have g1:=Int.tmod_lt_of_pos x hp
 have g2:-(n:Int) < Int.tmod x n:=by
  have:=Int.lt_tmod_of_pos x hp;omega
 rw [wrapI _ (by omega) (by omega),Int.tmod_eq_emod_of_nonneg (by omega),plc_cast hn]
 have h3:Int.tmod x (n:Int) + (n:Int) = x + (n:Int) * (1 - Int.tdiv x n):=by
  have:=Int.mul_tdiv_add_tmod x (n:Int)
  rw [Int.mul_sub];omega
 rw [h3,Int.add_mul_emod_self_left]
theorem pu_on2 (k:Nat) {n s:Nat} {x:Int} (hn:0 < n) (hn2:n≤60):puN (k + 1) 62 [tv n s,IV x] = some (IV (Int.ofNat (plc n x))):=by
 rw [p62];exact on_any (puN k) L n s x hn (by omega)
theorem p65 (k:Nat) (args:List Value):puN (k + 1) 65 args = m65 (puN k) L args:=by kernel_rfl
theorem pu_turned (k:Nat) {n s b:Nat} (hn:n≤21) (hs:s < 2 ^ n) (hb:b < n):puN (k + 1) 65 [tv n s,IV (Int.ofNat b)] = some (tv n (turnN n s b)):=by
 rw [p65]
 show m65_ (puN k) L (Int.ofNat n) (Int.ofNat s) (Int.ofNat b) = _
 unfold m65_
 have hs32:=lt32 (by omega) hs
 have e1:wrapF .i64 (Int.sub (Int.ofNat n) (Int.ofNat b)) = Int.ofNat (n - b):=by
  show wrapF .i64 ((n:Int) - (b:Int)) = ((n - b:Nat):Int)
  rw [wrapI _ (by omega) (by omega)];omega
 have e2:wrapF .u32 (Int.sub (shlI .u32 (1:Int) n) (1:Int)) = Int.ofNat (2 ^ n - 1):=by
  have h1:2 ^ n < 4294967296:=Nat.lt_of_le_of_lt (Nat.pow_le_pow_right (by omega) hn) (by decide)
  have h2:=Nat.two_pow_pos n
  rw [shl32 (by omega),show Int.sub (Int.ofNat (2 ^ n)) 1 = Int.ofNat (2 ^ n - 1) from by show ((2 ^ n:Nat):Int) - 1 = ((2 ^ n - 1:Nat):Int);omega]
  exact wrap32 (by omega)
 have e3:shlI .u32 (Int.ofNat s) b = Int.ofNat ((s * 2 ^ b) % 4294967296):=by
  show wrapF .u32 (Int.ofNat (s * 2 ^ (min b 32))) = _
  rw [Nat.min_eq_left (by omega)];rfl
 have h4:(s * 2 ^ b) % 4294967296 < 4294967296:=Nat.mod_lt _ (by omega)
 have h5:s / 2 ^ (n - b) < 4294967296:=Nat.lt_of_le_of_lt (Nat.div_le_self _ _) hs32
 have h6:(s * 2 ^ b) % 4294967296 ||| s / 2 ^ (n - b) < 4294967296:=Nat.or_lt_two_pow (n:=32) h4 h5
 have h7:2 ^ n - 1 < 4294967296:=by
  have h1:2 ^ n < 4294967296:=Nat.lt_of_le_of_lt (Nat.pow_le_pow_right (by omega) hn) (by decide)
  omega
 show oo (toN (wrapF .i64 (Int.sub (Int.ofNat n) (Int.ofNat b)))) none (fun k3348=>some (Value.agg ⟨[(.int .i64 (Int.ofNat n)),(.int .u32 (aand .u32 (aor .u32 (shlI .u32 (Int.ofNat s) b) (shrI .u32 (Int.ofNat s) k3348)) (wrapF .u32 (Int.sub (shlI .u32 (1:Int) n) (1:Int)))))]⟩)) = _
 rw [e1,show ∀ j,toN (Int.ofNat j) = some j from fun _=>rfl,oo_some,e2,e3,shr32 hs32,aor32 h4 h5,aand32 h6 h7];rfl
end Go.RgP
set_option maxRecDepth 100000
set_option maxHeartbeats 4000000
namespace Go.RgP
open Go Go.Sp Go.RgFM
theorem p66 (k:Nat) (args:List Value):puN (k + 1) 66 args = m66 (puN k) L args:=by kernel_rfl
theorem pu_seal (k:Nat) {n s:Nat} (hn:n≤60):puN (k + 3) 66 [tv n s] = some (seaF n 0 (marksN n s)):=by
 rw [p66]
 show oo (puN (k + 2) 80 [tv n s]) none _ = _
 rw [pu_marks k hn];rfl
noncomputable def reachV (o:Option Nat):Value:=match o with
 | none=>tup2 (IV 0) (.bool false)
 | some b=>tup2 (IV (Int.ofNat b)) (.bool true)
theorem reach_loop (k : Nat) {n s o : Nat} (hn : n ≤ 21) (hs : s < 2 ^ n) : ∀ (j w b : Nat), j < w → b + j = n →
 l70_1 (puN (k + 1)) L w (Int.ofNat n) (Int.ofNat b) (Int.ofNat n) (Int.ofNat s) (Int.ofNat n) (Int.ofNat o) = some (reachV ((List.range' b j).find? fun b=>Nat.beq (turnN n s b) o))
 | j,0,_,h,_=>by omega
 | 0, w + 1, b, _, hb => by
  show b70_1 (puN (k + 1)) L (l70_1 (puN (k + 1)) L w) (Int.ofNat n) (Int.ofNat b) (Int.ofNat n) (Int.ofNat s) (Int.ofNat n) (Int.ofNat o) = _
  unfold b70_1
  rw [ilt_nat,show Nat.blt b n = false from by rw [blt_eq];simp;omega];rfl
 | j + 1, w + 1, b, hw, hb => by
  show b70_1 (puN (k + 1)) L (l70_1 (puN (k + 1)) L w) (Int.ofNat n) (Int.ofNat b) (Int.ofNat n) (Int.ofNat s) (Int.ofNat n) (Int.ofNat o) = _
  have ih:=reach_loop k (o:=o) hn hs j w (b + 1) (by omega) (by omega)
  unfold b70_1
  rw [ilt_nat,show Nat.blt b n = true from by rw [blt_eq];simp;omega,bb_true]
  show oo (puN (k + 1) 65 [tv n s,IV (Int.ofNat b)]) none _ = _
  rw [pu_turned k hn hs (by omega),oo_some]
  show bb (bq true (an (ieq (Int.ofNat n) (Int.ofNat n)) (an (ieq (Int.ofNat (turnN n s b)) (Int.ofNat o)) true))) (some (tup2 (IV (Int.ofNat b)) (.bool true))) (l70_1 (puN (k + 1)) L w (Int.ofNat n) (wrapF .i64 (Int.add (Int.ofNat b) (1:Int))) (Int.ofNat n) (Int.ofNat s) (Int.ofNat n) (Int.ofNat o)) = _
  rw [ieq_nat,ieq_nat,Nat.beq_refl,wrapS b (by omega),ih,List.range'_succ]
  cases hc:Nat.beq (turnN n s b) o with
  | true=>rw [List.find?_cons_of_pos (p:=fun b=>Nat.beq (turnN n s b) o) hc];rfl
  | false=>rw [List.find?_cons_of_neg (p:=fun b=>Nat.beq (turnN n s b) o) (by rw [hc];simp)];rfl
theorem p70 (k:Nat) (args:List Value):puN (k + 1) 70 args = m70 (puN k) L args:=by kernel_rfl
theorem pu_reaches (k:Nat) {n s o:Nat} (hn:n≤21) (hs:s < 2 ^ n):puN (k + 2) 70 [tv n s,tv n o] = some (reachV (reachN n s o)):=by
 rw [p70]
 have h:=reach_loop k (o:=o) hn hs n L 0 (by show n < 1000000;omega) (by omega)
 rw [←List.range_eq_range'] at h
 exact h
theorem times_loop (k : Nat) {n s : Nat} (hn0 : 0 < n) (hn : n ≤ 21) {m : Int} (hm : -100 ≤ m) (hm2 : m ≤ 100) {l : List Nat} (hl : l.length ≤ 60) (hln : ∀ x ∈ l, x < n) (z1 z2 : Int) : ∀ (r : List Nat) (w i z : Nat), l.drop i = r → r.length < w → i ≤ l.length → z < 2 ^ n →
 l71_1 (puN (k + 1)) L w m ⟨l.length,0,vL l⟩ (Int.ofNat l.length) (Int.ofNat i) (Int.ofNat n) (Int.ofNat s) z1 z2 (Int.ofNat n) (Int.ofNat z) = some (tv n (setOf (fun p=>plc n ((p:Int) * m)) r z))
 | _,0,_,_,_,h,_,_=>by omega
 | [], w + 1, i, z, hd, _, hi, _ => by
  show b71_1 (puN (k + 1)) L (l71_1 (puN (k + 1)) L w) m ⟨l.length,0,vL l⟩ (Int.ofNat l.length) (Int.ofNat i) (Int.ofNat n) (Int.ofNat s) z1 z2 (Int.ofNat n) (Int.ofNat z) = _
  have:l.length≤i:=List.drop_eq_nil_iff.1 hd
  unfold b71_1
  rw [ilt_nat,show Nat.blt i l.length = false from by rw [blt_eq];simp;omega];rfl
 | p :: r, w + 1, i, z, hd, hw, hi, hz => by
  show b71_1 (puN (k + 1)) L (l71_1 (puN (k + 1)) L w) m ⟨l.length,0,vL l⟩ (Int.ofNat l.length) (Int.ofNat i) (Int.ofNat n) (Int.ofNat s) z1 z2 (Int.ofNat n) (Int.ofNat z) = _
  obtain ⟨hd2,hi2,hp⟩:=drop_next hd
  have hr:(p :: r).length = r.length + 1:=rfl
  have hlt:Nat.blt i l.length = true:=by rw [blt_eq];simp;omega
  have hpn:=hln p hp
  have hpl:=plc_lt hn0 ((p:Int) * m)
  have hk:2 ^ plc n ((p:Int) * m) < 2 ^ n:=Nat.pow_lt_pow_right (by omega) hpl
  have hz2:z ||| 2 ^ plc n ((p:Int) * m) < 2 ^ n:=Nat.or_lt_two_pow hz hk
  have ih:=times_loop k (s:=s) hn0 hn hm hm2 hl hln z1 z2 r w (i + 1) _ hd2 (by omega) (by omega) hz2
  have b1:-3200≤(p:Int) * m:=by
   have:(p:Int) * (-100)≤(p:Int) * m:=Int.mul_le_mul_of_nonneg_left hm (by omega)
   omega
  have b2:(p:Int) * m≤3200:=by
   have:(p:Int) * m≤(p:Int) * 100:=Int.mul_le_mul_of_nonneg_left hm2 (by omega)
   omega
  have e1:wrapF .i64 (Int.mul (Int.ofNat p) m) = (p:Int) * m:=wrapI _ (by show _≤(p:Int) * m;omega) (by show (p:Int) * m≤_;omega)
  unfold b71_1
  rw [ilt_nat,hlt,bb_true,show toN (Int.ofNat i) = some i from rfl,oo_some]
  show bb (an (Nat.blt i l.length) true) (oo (nthL (vL l) (i * 1)) none _) none = _
  rw [hlt,show an true true = true from rfl,bb_true,vL_get hd,oo_some,show ∀ z,toI .i64 (IV z) = some z from fun _=>rfl,oo_some,e1]
  show oo (puN (k + 1) 62 [tv n s,IV ((p:Int) * m)]) none _ = _
  rw [pu_on2 k hn0 (by omega),oo_some,show ∀ z,toI .i64 (IV z) = some z from fun _=>rfl,oo_some,show ∀ j,toN (Int.ofNat j) = some j from fun _=>rfl,oo_some,shl32 (by omega),aor32 (lt32 (by omega) hz) (lt32 (by omega) hk),wrapS i (by omega),ih];rfl
theorem p71 (k:Nat) (args:List Value):puN (k + 1) 71 args = m71 (puN k) L args:=by kernel_rfl
noncomputable def timesN (n s:Nat) (m:Int):Nat:=setOf (fun p=>plc n ((p:Int) * m)) (marksN n s) 0
theorem timesN_lt {n s:Nat} (hn0:0 < n) {m:Int}:timesN n s m < 2 ^ n:=setOf_lt _ (Nat.two_pow_pos n) fun p _=>plc_lt hn0 _
theorem pu_times (k:Nat) {n s:Nat} (hn0:0 < n) (hn:n≤21) (hs:s < 2 ^ n) {m:Int} (hm:-100≤m) (hm2:m≤100):puN (k + 3) 71 [tv n s,IV m] = some (tv n (timesN n s m)):=by
 have hs32:=lt32 (n:=n) (by omega) hs
 have hlen:=marks_len (n:=n) (s:=s)
 rw [p71]
 show oo (puN (k + 2) 80 [tv n s]) none _ = _
 rw [pu_marks k (by omega),oo_some]
 have h:=times_loop (k + 1) (s:=s) hn0 hn hm hm2 (l:=marksN n s) (by omega) (fun x hx=>((mem_marks hs32).1 hx).1) 0 0 (marksN n s) L 0 0 List.drop_zero (by show _ < 1000000;omega) (by omega) (Nat.two_pow_pos n)
 rw [show k + 1 + 1 = k + 2 from rfl] at h
 exact h
end Go.RgP
set_option maxRecDepth 100000
set_option maxHeartbeats 4000000
namespace Go.RgP
open Go Go.Sp Go.RgFM
theorem check_loop (pu : PureF) (L : Nat) {n : Int} {l : List Int} (hl : l.length < 900000) (f f' : Nat) (l' : List Value) (m' : Nat) : ∀ (r : List Int) (w i : Nat) (last : Int), l.drop i = r → r.length < w → i ≤ l.length →
 l25_2 pu L w last ⟨l.length,f,iLI l⟩ (Int.ofNat l.length) (Int.ofNat i) n ⟨m',f',l'⟩ = some (IV (chk n r last))
 | _,0,_,_,_,h,_=>by omega
 | [], w + 1, i, last, hd, _, hi => by
  show b25_2 pu L (l25_2 pu L w) last ⟨l.length,f,iLI l⟩ (Int.ofNat l.length) (Int.ofNat i) n ⟨m',f',l'⟩ = _
  have h1:l.length≤i:=List.drop_eq_nil_iff.1 hd
  unfold b25_2
  rw [ilt_nat,show Nat.blt i l.length = false from by rw [blt_eq];simp;omega];rfl
 | x :: r, w + 1, i, last, hd, hw, hi => by
  show b25_2 pu L (l25_2 pu L w) last ⟨l.length,f,iLI l⟩ (Int.ofNat l.length) (Int.ofNat i) n ⟨m',f',l'⟩ = _
  obtain ⟨hd2,hi2,_⟩:=dropI_next hd
  have hr:(x :: r).length = r.length + 1:=rfl
  have hlt:Nat.blt i l.length = true:=by rw [blt_eq];simp;omega
  have ih:=check_loop pu L (n:=n) hl f f' l' m' r w (i + 1) x hd2 (by omega) (by omega)
  unfold b25_2
  rw [ilt_nat,hlt,bb_true,show toN (Int.ofNat i) = some i from rfl,oo_some]
  show bb (an (Nat.blt i l.length) true) (oo (nthL (iLI l) (i * 1)) none _) none = _
  rw [hlt,show an true true = true from rfl,bb_true,iLI_get hd,oo_some,show ∀ z,toI .i64 (IV z) = some z from fun _=>rfl,oo_some]
  show bb (ilt x 0) (bb true (some (IV 2)) _) (bb (nt (ilt x n)) (some (IV 2)) (bb (nt (ilt last x)) (some (IV 7)) (l25_2 pu L w x ⟨l.length,f,iLI l⟩ (Int.ofNat l.length) (wrapF .i64 (Int.add (Int.ofNat i) (1:Int))) n ⟨m',f',l'⟩))) = some (IV (bif ilt x 0 then 2 else bif nt (ilt x n) then 2 else bif nt (ilt last x) then 7 else chk n r x))
  rw [wrapS i (by omega),ih]
  cases ilt x 0 <;> cases nt (ilt x n) <;> cases nt (ilt last x) <;> rfl
theorem p25 (k:Nat) (args:List Value):puN (k + 1) 25 args = m25 (puN k) L args:=by kernel_rfl
theorem pu_check (k f:Nat) (n:Int) {l:List Int} (hl:l.length < 900000):puN (k + 1) 25 [.agg ⟨[IV n,slI f l]⟩] = some (IV (checkI n l)):=by
 rw [p25]
 show bb (ilt n 1) (m25_0 (puN k) L true n ⟨l.length,f,iLI l⟩) (m25_0 (puN k) L (ilt 21 n) n ⟨l.length,f,iLI l⟩) = _
 have h:=check_loop (puN k) L (n:=n) hl f f (iLI l) l.length l L 0 (-1) List.drop_zero (by show _ < 1000000;omega) (by omega)
 have h0:∀ b,m25_0 (puN k) L b n ⟨l.length,f,iLI l⟩ = some (IV (bif b then 1 else bif Nat.blt 6 l.length then 3 else chk n l (-1))):=fun b=>by
  show bb b (some (IV 1)) (bb (ilt (6:Int) (Int.ofNat l.length)) (some (IV 3)) (l25_2 (puN k) L L (-1:Int) ⟨l.length,f,iLI l⟩ (Int.ofNat l.length) (0:Int) n ⟨l.length,f,iLI l⟩)) = _
  have h:l25_2 (puN k) L L (-1:Int) ⟨l.length,f,iLI l⟩ (Int.ofNat l.length) (0:Int) n ⟨l.length,f,iLI l⟩ = some (IV (chk n l (-1))):=h
  rw [h,show (6:Int) = Int.ofNat 6 from rfl,ilt_nat]
  cases b <;> cases Nat.blt 6 l.length <;> rfl
 rw [h0,h0]
 unfold checkI
 cases ilt n 1 <;> cases ilt 21 n <;> rfl
theorem made_loop (pu : PureF) (L n : Nat) {l : List Nat} (hl : ∀ x ∈ l, x < 31) (hl2 : l.length < 900000) (f : Nat) (a b : Int) : ∀ (r : List Nat) (w i z : Nat), l.drop i = r → r.length < w → i ≤ l.length → z < 2 ^ 31 →
 l96_1 pu L w ⟨l.length,f,vL l⟩ (Int.ofNat l.length) (Int.ofNat i) a b (Int.ofNat n) (Int.ofNat z) = some (tv n (setOf (fun p=>p) r z))
 | _,0,_,_,_,h,_,_=>by omega
 | [], w + 1, i, z, hd, _, hi, _ => by
  show b96_1 pu L (l96_1 pu L w) ⟨l.length,f,vL l⟩ (Int.ofNat l.length) (Int.ofNat i) a b (Int.ofNat n) (Int.ofNat z) = _
  have:l.length≤i:=List.drop_eq_nil_iff.1 hd
  unfold b96_1
  rw [ilt_nat,show Nat.blt i l.length = false from by rw [blt_eq];simp;omega];rfl
 | p :: r, w + 1, i, z, hd, hw, hi, hz => by
  show b96_1 pu L (l96_1 pu L w) ⟨l.length,f,vL l⟩ (Int.ofNat l.length) (Int.ofNat i) a b (Int.ofNat n) (Int.ofNat z) = _
  obtain ⟨hd2,hi2,hb'⟩:=drop_next hd
  have hp:=hl p hb'
  have hr:(p :: r).length = r.length + 1:=rfl
  have hlt:Nat.blt i l.length = true:=by rw [blt_eq];simp;omega
  have hk:2 ^ p < 2 ^ 31:=Nat.pow_lt_pow_right (by omega) hp
  have hz2:z ||| 2 ^ p < 2 ^ 31:=Nat.or_lt_two_pow hz hk
  have ih:=made_loop pu L n hl hl2 f a b r w (i + 1) _ hd2 (by omega) (by omega) hz2
  unfold b96_1
  rw [ilt_nat,hlt,bb_true,show toN (Int.ofNat i) = some i from rfl,oo_some]
  show bb (an (Nat.blt i l.length) true) (oo (nthL (vL l) (i * 1)) none _) none = _
  rw [hlt,show an true true = true from rfl,bb_true,vL_get hd,oo_some,show toI .i64 (IV (Int.ofNat p)) = some (Int.ofNat p) from rfl,oo_some,show toN (Int.ofNat p) = some p from rfl,oo_some,shl32 (by omega),aor32 (by omega) (by omega),wrapS i (by omega),ih];rfl
theorem p96 (k:Nat) (args:List Value):puN (k + 1) 96 args = m96 (puN k) L args:=by kernel_rfl
theorem pu_made (k n f:Nat) {l:List Nat} (hl:∀ x ∈ l,x < 31) (hl2:l.length < 900000):puN (k + 1) 96 [IV (Int.ofNat n),Sl.v 1 ⟨l.length,f,vL l⟩] = some (tv n (bitsOf l)):=by
 rw [p96]
 exact made_loop (puN k) L n hl hl2 f 0 0 l L 0 0 List.drop_zero (by show _ < 1000000;omega) (by omega) (by omega)
theorem p61 (k:Nat) (args:List Value):puN (k + 1) 61 args = m61 (puN k) L args:=by kernel_rfl
theorem pu_opened (k f:Nat) {n:Nat} {l:List Nat} (hn0:0 < n) (hn:n≤21) (hl:l.length≤6) (h1:l.Pairwise (· < ·)) (h2:∀ x ∈ l,x < n):puN (k + 2) 61 [.agg ⟨[IV (Int.ofNat n),Sl.v 1 ⟨l.length,f,vL l⟩]⟩] = some (tup2 (tv n (bitsOf l)) (IV 0)):=by
 rw [p61]
 show oo (puN (k + 1) 25 [.agg ⟨[IV (Int.ofNat n),Sl.v 1 ⟨l.length,f,vL l⟩]⟩]) none _ = _
 have hc:=pu_check k f (Int.ofNat n) (l:=l.map Int.ofNat) (by simp;omega)
 rw [checkI_ok hn0 hn hl h1 h2] at hc
 rw [show Sl.v 1 ⟨l.length,f,vL l⟩ = slI f (l.map Int.ofNat) from by unfold slI;rw [vL_iLI,List.length_map],hc,oo_some]
 show oo (puN (k + 1) 96 [IV (Int.ofNat n),slI f (l.map Int.ofNat)]) none _ = _
 have hm:=pu_made k n f (l:=l) (fun x hx=>by have:=h2 x hx;omega) (by omega)
 rw [show slI f (l.map Int.ofNat) = Sl.v 1 ⟨l.length,f,vL l⟩ from by unfold slI;rw [vL_iLI,List.length_map],hm];rfl
theorem pu_opened_bad (k f:Nat) {n:Int} {l:List Int} (hl:l.length < 900000) (h:checkI n l ≠ 0):puN (k + 2) 61 [.agg ⟨[IV n,slI f l]⟩] = some (tup2 (tv 0 0) (IV (checkI n l))):=by
 rw [p61]
 show oo (puN (k + 1) 25 [.agg ⟨[IV n,slI f l]⟩]) none _ = _
 rw [pu_check k f n hl,oo_some]
 have:ieq (checkI n l) 0 = false:=by rw [ieq_eq];simpa using h
 show bb (nt (ieq (checkI n l) 0)) _ _ = _
 rw [this];rfl
end Go.RgP
set_option maxRecDepth 100000
set_option maxHeartbeats 4000000
namespace Go.RgP
open Go Go.Sp Go.RgFM
noncomputable def nilW:Value:=Sl.v 1 (Sl.mk 0 2 [])
noncomputable def noSeal:Value:=.agg ⟨[IV 0,nilW]⟩
noncomputable def multV (n:Nat) (l:List Nat) (m:Int):Value:=
 bif ilt m 1 then tup2 noSeal (IV 1) else bif ilt (Int.ofNat n) m then tup2 noSeal (IV 1) else bif decide (Nat.gcd m.toNat n = 1) then tup2 (seaF n 0 (marksN n (timesN n (bitsOf l) m))) (IV 0) else tup2 noSeal (IV 13)
theorem p40 (k:Nat) (args:List Value):puN (k + 1) 40 args = m40 (puN k) L args:=by kernel_rfl
theorem pu_mult40 (k f:Nat) {n:Nat} {l:List Nat} (h:Good n l) (m:Int):puN (k + 4) 40 [seaF n f l,IV m] = some (multV n l m):=by
 have hn:=h.le
 rw [p40]
 show oo (puN (k + 3) 61 [seaF n f l]) none _ = _
 rw [show puN (k + 3) 61 [seaF n f l] = _ from pu_opened (k + 1) f h.pos h.le h.few h.up h.lt,oo_some]
 show bb (ilt m 1) (some (tup2 noSeal (IV 1))) (m40_0 (puN (k + 3)) L m (ilt (Int.ofNat n) m) (Int.ofNat n) ⟨l.length,f,vL l⟩ (0:Int) (Int.ofNat n) (Int.ofNat (bitsOf l))) = _
 unfold multV m40_0
 cases h1:ilt m 1 with
 | true=>rfl
 | false =>
  rw [bb_false]
  cases h2:ilt (Int.ofNat n) m with
  | true=>rfl
  | false =>
   rw [ilt_eq] at h1 h2
   have h1:¬ m < 1:=of_decide_eq_false h1
   have h2:¬ (n:Int) < m:=of_decide_eq_false h2
   obtain ⟨j,rfl⟩:∃ j:Nat,m = Int.ofNat j:=⟨m.toNat,by show m = ((m.toNat:Nat):Int);omega⟩
   have h1:¬ (j:Int) < 1:=h1
   have h2:¬ (n:Int) < (j:Int):=h2
   rw [bb_false]
   show oo (puN (k + 3) 89 [IV (Int.ofNat j),IV (Int.ofNat n)]) none _ = some (bif false then _ else bif false then _ else bif decide (Nat.gcd j n = 1) then _ else _)
   rw [pu_prime (k + 2) (by omega) h.pos (by omega),oo_some]
   show bb (nt (decide (Nat.gcd j n = 1))) (some (tup2 noSeal (IV 13))) (oo (puN (k + 3) 71 [tv n (bitsOf l),IV (Int.ofNat j)]) none _) = _
   rw [pu_times k h.pos hn (bitsOf_lt h.lt) (by show (-100:Int)≤(j:Int);omega) (by show (j:Int)≤100;omega),oo_some]
   show bb (nt (decide (Nat.gcd j n = 1))) (some (tup2 noSeal (IV 13))) (oo (puN (k + 3) 66 [tv n (timesN n (bitsOf l) (Int.ofNat j))]) none _) = _
   rw [pu_seal k (by omega),oo_some]
   cases decide (Nat.gcd j n = 1) <;> rfl
noncomputable def isMul (n s m:Nat):Bool:=decide (Nat.gcd m n = 1) && (reachN n (timesN n s (Int.ofNat m)) s).isSome
noncomputable def mulF (n s : Nat) : Nat → Nat → List Nat
 | 0,_=>[]
 | k + 1,m=>bif isMul n s m then m :: mulF n s k (m + 1) else mulF n s k (m + 1)
theorem reach_some' (o:Option Nat):reachV o = tup2 (IV (Int.ofNat (o.getD 0))) (.bool o.isSome):=by cases o <;> rfl
theorem mul_loop (k : Nat) {n s : Nat} (hn0 : 0 < n) (hn : n ≤ 21) (hs : s < 2 ^ n) (sl : Sl) : ∀ (j w m c : Nat) (q : List Nat), j < w → m + j = n + 1 → 0 < m → q.length ≤ m → c / 2 = q.length → c % 2 = 0 →
 l42_1 (puN (k + 3)) L w q.length c (Int.ofNat m) (Int.ofNat n) sl (Int.ofNat n) (Int.ofNat s) (vL q) = some (tup2 (slv (q ++ mulF n s j m)) (IV 0))
 | j,0,_,_,_,hw,_,_,_,_,_=>by omega
 | 0, w + 1, m, c, q, _, hk, _, _, _, _ => by
  show b42_1 (puN (k + 3)) L (l42_1 (puN (k + 3)) L w) q.length c (Int.ofNat m) (Int.ofNat n) sl (Int.ofNat n) (Int.ofNat s) (vL q) = _
  unfold b42_1
  rw [vL_closed,bb_true,ilt_nat,show Nat.blt n m = true from by rw [blt_eq];simp;omega,show nt true = false from rfl,bb_false]
  unfold m42_0
  have e1:takeL (q.length * 1) (dropL 0 (vL q)) = vL q:=by
   rw [takeL_eq,dropL_eq,List.drop_zero,Nat.mul_one,←vL_len q,List.take_length]
  rw [e1,vL_closed,bb_true,len_eq,vL_len,show Nat.ble (0 + q.length * 1) q.length = true from Nat.ble_eq_true_of_le (by omega)]
  show _ = some (tup2 (slv (q ++ [])) (IV 0))
  rw [List.append_nil];rfl
 | j + 1, w + 1, m, c, q, hw, hk, hm0, hq, hc, hc2 => by
  show b42_1 (puN (k + 3)) L (l42_1 (puN (k + 3)) L w) q.length c (Int.ofNat m) (Int.ofNat n) sl (Int.ofNat n) (Int.ofNat s) (vL q) = _
  have hsm:wrapF .i64 (Int.add (Int.ofNat m) 1) = Int.ofNat (m + 1):=wrapS m (by omega)
  have stay:=mul_loop k hn0 hn hs sl j w (m + 1) c q (by omega) (by omega) (by omega) (by omega) hc hc2
  have go:=mul_loop k hn0 hn hs sl j w (m + 1) (2 * (q.length + 1) + bb false 1 0) (q ++ [m]) (by omega) (by omega) (by omega) (by simp;omega) (by simp) (by simp)
  rw [List.length_append,show [m].length = 1 from rfl] at go
  have hstay:m42_2 (puN (k + 3)) L (l42_1 (puN (k + 3)) L w) q.length c (Int.ofNat m) (Int.ofNat n) sl (Int.ofNat n) (Int.ofNat s) (vL q) = some (tup2 (slv (q ++ mulF n s j (m + 1))) (IV 0)):=by
   unfold m42_2
   rw [vL_closed,bb_true,hsm,stay]
  unfold b42_1
  rw [vL_closed,bb_true,ilt_nat,show Nat.blt n m = false from by rw [blt_eq];simp;omega,show nt false = true from rfl,bb_true]
  show oo (puN (k + 3) 89 [IV (Int.ofNat m),IV (Int.ofNat n)]) none _ = _
  rw [pu_prime (k + 2) hm0 hn0 (by omega),oo_some]
  show bb (nt (decide (Nat.gcd m n = 1))) (m42_2 (puN (k + 3)) L (l42_1 (puN (k + 3)) L w) q.length c (Int.ofNat m) (Int.ofNat n) sl (Int.ofNat n) (Int.ofNat s) (vL q)) (oo (puN (k + 3) 71 [tv n s,IV (Int.ofNat m)]) none _) = _
  unfold mulF isMul
  cases decide (Nat.gcd m n = 1) with
  | false=>exact hstay
  | true =>
   rw [show nt true = false from rfl,bb_false,pu_times k hn0 hn hs (by show (-100:Int)≤(m:Int);omega) (by show (m:Int)≤100;omega),oo_some]
   show oo (puN (k + 3) 70 [tv n (timesN n s (Int.ofNat m)),tv n s]) none _ = _
   rw [pu_reaches (k + 1) hn (timesN_lt hn0),reach_some',oo_some]
   show bb (reachN n (timesN n s (Int.ofNat m)) s).isSome (bb (growC 1 8 q.length c 1 (vL q)) (bb (allL closed1 (appL (dropL 0 (vL q)) [.int .i64 (Int.ofNat m)])) (m42_2 (puN (k + 3)) L (l42_1 (puN (k + 3)) L w) (q.length + 1) (2 * (q.length + 1) + bb false 1 0) (Int.ofNat m) (Int.ofNat n) sl (Int.ofNat n) (Int.ofNat s) (appL (dropL 0 (vL q)) [.int .i64 (Int.ofNat m)])) none) none) (m42_2 (puN (k + 3)) L (l42_1 (puN (k + 3)) L w) q.length c (Int.ofNat m) (Int.ofNat n) sl (Int.ofNat n) (Int.ofNat s) (vL q)) = _
   cases (reachN n (timesN n s (Int.ofNat m)) s).isSome with
   | false=>exact hstay
   | true =>
    rw [bb_true,grow_vL (by omega) hc hc2,bb_true,vL_snoc,vL_closed,bb_true]
    unfold m42_2
    rw [vL_closed,bb_true,hsm,go,List.append_assoc];rfl
theorem p42 (k:Nat) (args:List Value):puN (k + 1) 42 args = m42 (puN k) L args:=by kernel_rfl
theorem pu_mul42 (k f:Nat) {n:Nat} {l:List Nat} (h:Good n l):puN (k + 4) 42 [seaF n f l] = some (tup2 (slv (mulF n (bitsOf l) n 1)) (IV 0)):=by
 have hn:=h.le
 rw [p42]
 show oo (puN (k + 3) 61 [seaF n f l]) none _ = _
 rw [show puN (k + 3) 61 [seaF n f l] = _ from pu_opened (k + 1) f h.pos h.le h.few h.up h.lt,oo_some]
 have hl:=mul_loop k h.pos hn (bitsOf_lt h.lt) ⟨l.length,f,vL l⟩ n L 1 0 [] (by show n < 1000000;omega) (by omega) (by omega) (by simp) rfl rfl
 exact hl
end Go.RgP
set_option maxRecDepth 100000
set_option maxHeartbeats 4000000
namespace Go.RgP
open Go Go.Sp Go.RgFM
theorem p64 (k:Nat) (args:List Value):puN (k + 1) 64 args = m64 (puN k) L args:=by kernel_rfl
theorem pu_rest (k:Nat) {n:Nat} (hn0:0 < n) (hn:n≤60) (x:Int):puN (k + 1) 64 [IV x,IV (Int.ofNat n)] = some (IV (Int.ofNat (plc n x))):=by
 rw [p64]
 show m64_ (puN k) L x (Int.ofNat n) = _
 unfold m64_ m64_0
 have hp:(0:Int) < (n:Int):=by omega
 have e:ieq (Int.ofNat n) 0 = false:=by rw [show (0:Int) = Int.ofNat 0 from rfl,ieq_nat];exact beq_ne (by omega)
 have g1:=Int.tmod_lt_of_pos x hp
 have g2:-(n:Int) < Int.tmod x n:=by
  have:=Int.lt_tmod_of_pos x hp;omega
 have hpl:=plc_cast hn0 x
 have h3:Int.tmod x (n:Int) + (n:Int) = x + (n:Int) * (1 - Int.tdiv x n):=by
  have:=Int.mul_tdiv_add_tmod x (n:Int)
  rw [Int.mul_sub];omega
 rw [e,show nt false = true from rfl,bb_true,ilt_eq]
 show bb (decide (Int.tmod x (n:Int) < 0)) (some (IV (wrapF .i64 (Int.tmod x (n:Int) + (n:Int))))) (some (IV (Int.tmod x (n:Int)))) = some (IV ((plc n x:Nat):Int))
 by_cases h:Int.tmod x (n:Int) < 0
 ·rw [decide_eq_true h, bb_true, wrapI _ (by omega) (by omega), hpl]
  have:(Int.tmod x (n:Int) + (n:Int)) % (n:Int) = x % (n:Int):=by rw [h3,Int.add_mul_emod_self_left]
  rw [←this,Int.emod_eq_of_lt (by omega) (by omega)]
 ·rw [decide_eq_false h, bb_false, hpl]
  have h4:Int.tmod x (n:Int) = x + (n:Int) * (- Int.tdiv x n):=by
   have:=Int.mul_tdiv_add_tmod x (n:Int)
   rw [Int.mul_neg];omega
  have:(Int.tmod x (n:Int)) % (n:Int) = x % (n:Int):=by rw [h4,Int.add_mul_emod_self_left]
  rw [←this,Int.emod_eq_of_lt (by omega) (by omega)]
theorem marked_loop (pu : PureF) (L : Nat) {l : List Nat} (hl : l.length < 900000) (f p : Nat) (z : Int) : ∀ (r : List Nat) (w i : Nat), l.drop i = r → r.length < w → i ≤ l.length →
 l63_1 pu L w (Int.ofNat p) (Int.ofNat i) z ⟨l.length,f,vL l⟩ = some (.bool (decide (p ∈ r)))
 | _,0,_,_,h,_=>by omega
 | [], w + 1, i, hd, _, hi => by
  show b63_1 pu L (l63_1 pu L w) (Int.ofNat p) (Int.ofNat i) z ⟨l.length,f,vL l⟩ = _
  have h1:l.length≤i:=List.drop_eq_nil_iff.1 hd
  unfold b63_1
  show bb (ilt (Int.ofNat i) (Int.ofNat l.length)) _ _ = _
  rw [ilt_nat,show Nat.blt i l.length = false from by rw [blt_eq];simp;omega];rfl
 | x :: r, w + 1, i, hd, hw, hi => by
  show b63_1 pu L (l63_1 pu L w) (Int.ofNat p) (Int.ofNat i) z ⟨l.length,f,vL l⟩ = _
  obtain ⟨hd2,hi2,_⟩:=drop_next hd
  have hr:(x :: r).length = r.length + 1:=rfl
  have hlt:Nat.blt i l.length = true:=by rw [blt_eq];simp;omega
  have ih:=marked_loop pu L hl f p z r w (i + 1) hd2 (by omega) (by omega)
  unfold b63_1
  show bb (ilt (Int.ofNat i) (Int.ofNat l.length)) (oo (toN (Int.ofNat i)) none _) _ = _
  rw [ilt_nat,hlt,bb_true,show toN (Int.ofNat i) = some i from rfl,oo_some]
  show bb (an (Nat.blt i l.length) true) (oo (nthL (vL l) (i * 1)) none _) none = _
  rw [hlt,show an true true = true from rfl,bb_true,vL_get hd,oo_some,show ∀ z,toI .i64 (IV z) = some z from fun _=>rfl,oo_some,wrapS i (by omega),ih,ieq_nat,beq_dec]
  by_cases h:x = p
  ·subst h;simp
  ·have : ¬ p = x := fun e => h e.symm
   simp [h,this]
theorem p63 (k:Nat) (args:List Value):puN (k + 1) 63 args = m63 (puN k) L args:=by kernel_rfl
theorem pu_marked (k n f p:Nat) {l:List Nat} (hl:l.length < 900000):puN (k + 1) 63 [seaF n f l,IV (Int.ofNat p)] = some (.bool (decide (p ∈ l))):=by
 rw [p63]
 exact marked_loop (puN k) L hl f p (Int.ofNat n) l L 0 List.drop_zero (by show _ < 1000000;omega) (by omega)
theorem p73 (k:Nat) (args:List Value):puN (k + 1) 73 args = m73 (puN k) L args:=by kernel_rfl
theorem pu_is (k:Nat) (x a b:Int):puN (k + 1) 73 [IV x,IV a,IV b] = some (.bool (decide (a≤x∧x≤b))):=by
 rw [p73]
 show bb (nt (ilt x a)) (some (Value.bool (nt (ilt b x)))) (some (Value.bool false)) = _
 rw [ilt_eq,ilt_eq]
 by_cases h1:x < a
 ·rw [decide_eq_true h1,decide_eq_false (show ¬ (a≤x∧x≤b) by omega)];rfl
 ·rw [decide_eq_false h1]
  by_cases h2:b < x
  ·rw [decide_eq_true h2,decide_eq_false (show ¬ (a≤x∧x≤b) by omega)];rfl
  ·rw [decide_eq_false h2,decide_eq_true (show a≤x∧x≤b by omega)];rfl
theorem check26_loop (k : Nat) {n : Int} (hn : 1 ≤ n) (hn2 : n ≤ 21) {l : List Int} (hl : l.length < 900000) (f : Nat) : ∀ (r : List Int) (w i : Nat) (last : Int), l.drop i = r → r.length < w → i ≤ l.length → (i = 0 → last = -1) → (0 < i → l[i - 1]? = some last) →
 l26_1 (puN (k + 1)) L w (Int.ofNat i) n ⟨l.length,f,iLI l⟩ = some (IV (chk n r last))
 | _,0,_,_,_,h,_,_,_=>by omega
 | [], w + 1, i, last, hd, _, hi, _, _ => by
  show b26_1 (puN (k + 1)) L (l26_1 (puN (k + 1)) L w) (Int.ofNat i) n ⟨l.length,f,iLI l⟩ = _
  have h1:l.length≤i:=List.drop_eq_nil_iff.1 hd
  unfold b26_1
  show bb (ilt (Int.ofNat i) (Int.ofNat l.length)) _ _ = _
  rw [ilt_nat,show Nat.blt i l.length = false from by rw [blt_eq];simp;omega];rfl
 | x :: r, w + 1, i, last, hd, hw, hi, hi0, hip => by
  show b26_1 (puN (k + 1)) L (l26_1 (puN (k + 1)) L w) (Int.ofNat i) n ⟨l.length,f,iLI l⟩ = _
  obtain ⟨hd2,hi2,_⟩:=dropI_next hd
  have hr:(x :: r).length = r.length + 1:=rfl
  have hlt:Nat.blt i l.length = true:=by rw [blt_eq];simp;omega
  have hx:l[i]? = some x:=by
   have:=congrArg List.head? hd
   rw [List.head?_drop] at this;exact this
  have ih:=check26_loop k hn hn2 hl f r w (i + 1) x hd2 (by omega) (by omega) (by omega) (fun _=>by simpa using hx)
  have e1:wrapF .i64 (Int.sub n (1:Int)) = n - 1:=wrapI _ (by show _≤n - 1;omega) (by show n - 1≤_;omega)
  have hchk:chk n (x :: r) last = (bif ilt x 0 then 2 else bif nt (ilt x n) then 2 else bif nt (ilt last x) then 7 else chk n r x):=rfl
  rw [hchk]
  unfold b26_1
  show bb (ilt (Int.ofNat i) (Int.ofNat l.length)) (oo (toN (Int.ofNat i)) none _) _ = _
  rw [ilt_nat,hlt,bb_true,show toN (Int.ofNat i) = some i from rfl,oo_some]
  show bb (an (Nat.blt i l.length) true) (oo (nthL (iLI l) (i * 1)) none _) none = _
  rw [hlt,show an true true = true from rfl,bb_true,iLI_get hd,oo_some,show ∀ z,toI .i64 (IV z) = some z from fun _=>rfl,oo_some,e1,pu_is,oo_some]
  show bb (nt (decide (0≤x∧x≤n - 1))) (some (IV 2)) (bb (ilt (0:Int) (Int.ofNat i)) (bb true (oo (some (IV x)) none fun v=>oo (toI .i64 v) none fun x3347=>oo (toN (wrapF .i64 (Int.sub (Int.ofNat i) (1:Int)))) none fun k3349=>bb (an (Nat.blt k3349 l.length) true) (oo (nthL (iLI l) (k3349 * 1)) none fun v3352=>oo (toI .i64 v3352) none fun x3354=>m26_2 (puN (k + 1)) L (l26_1 (puN (k + 1)) L w) (Int.ofNat i) (nt (ilt x3354 x3347)) n ⟨l.length,f,iLI l⟩) none) none) (m26_2 (puN (k + 1)) L (l26_1 (puN (k + 1)) L w) (Int.ofNat i) false n ⟨l.length,f,iLI l⟩)) = _
  have hm2:∀ b,m26_2 (puN (k + 1)) L (l26_1 (puN (k + 1)) L w) (Int.ofNat i) b n ⟨l.length,f,iLI l⟩ = some (IV (bif b then 7 else chk n r x)):=fun b=>by
   unfold m26_2
   rw [wrapS i (by omega),ih]
   cases b <;> rfl
  rw [ilt_eq x 0,ilt_eq x n,hm2]
  by_cases h1:x < 0
  ·rw [decide_eq_false (show ¬ (0≤x∧x≤n - 1) by omega),decide_eq_true h1];rfl
  ·rw [decide_eq_false h1]
   by_cases h2:x < n
   ·rw [decide_eq_true h2, decide_eq_true (show 0 ≤ x ∧ x ≤ n - 1 by omega)]
    show bb (ilt (0:Int) (Int.ofNat i)) _ (some (IV (chk n r x))) = some (IV (bif nt (ilt last x) then 7 else chk n r x))
    rw [show (0:Int) = Int.ofNat 0 from rfl,ilt_nat,blt_eq]
    by_cases h3:0 < i
    ·have hprev : nthL (iLI l) ((i - 1) * 1) = some (IV last) := by
      rw [nthL_eq,Nat.mul_one];unfold iLI
      rw [List.getElem?_map,hip h3];rfl
     have e2:wrapF .i64 (Int.sub (Int.ofNat i) (1:Int)) = Int.ofNat (i - 1):=by
      show wrapF .i64 ((i:Int) - 1) = ((i - 1:Nat):Int)
      rw [wrapI _ (by omega) (by omega)];omega
     rw [decide_eq_true h3,bb_true,bb_true,oo_some,show ∀ z,toI .i64 (IV z) = some z from fun _=>rfl,oo_some,e2,show ∀ j,toN (Int.ofNat j) = some j from fun _=>rfl,oo_some,show Nat.blt (i - 1) l.length = true from by rw [blt_eq];simp;omega,show an true true = true from rfl,bb_true,hprev,oo_some,show ∀ z,toI .i64 (IV z) = some z from fun _=>rfl,oo_some,hm2]
    ·have : last = -1 := hi0 (by omega)
     rw [decide_eq_false h3,bb_false,ilt_eq last x,decide_eq_true (show last < x by omega)];rfl
   ·rw [decide_eq_false h2,decide_eq_false (show ¬ (0≤x∧x≤n - 1) by omega)];rfl
theorem p26 (k:Nat) (args:List Value):puN (k + 1) 26 args = m26 (puN k) L args:=by kernel_rfl
theorem pu_check26 (k f:Nat) (n:Int) {l:List Int} (hl:l.length < 900000):puN (k + 2) 26 [.agg ⟨[IV n,slI f l]⟩] = some (IV (checkI n l)):=by
 rw [p26]
 show oo (puN (k + 1) 73 [IV n,IV 1,IV 21]) none _ = _
 rw [pu_is,oo_some]
 show bb (nt (decide (1≤n∧n≤21))) (some (IV 1)) (bb (ilt (6:Int) (Int.ofNat l.length)) (some (IV 3)) (l26_1 (puN (k + 1)) L L (0:Int) n ⟨l.length,f,iLI l⟩)) = _
 unfold checkI
 rw [ilt_eq n 1,ilt_eq 21 n,show ilt (6:Int) (Int.ofNat l.length) = Nat.blt 6 l.length from ilt_nat 6 _]
 by_cases h1:n < 1
 ·rw [decide_eq_true h1,decide_eq_false (show ¬ (1≤n∧n≤21) by omega)];rfl
 ·rw [decide_eq_false h1]
  by_cases h2:21 < n
  ·rw [decide_eq_true h2,decide_eq_false (show ¬ (1≤n∧n≤21) by omega)];rfl
  ·rw [decide_eq_false h2, decide_eq_true (show 1 ≤ n ∧ n ≤ 21 by omega)]
   have h:=check26_loop k (n:=n) (by omega) (by omega) hl f l L 0 (-1) List.drop_zero (by show _ < 1000000;omega) (by omega) (fun _=>rfl) (fun h=>by omega)
   have h:l26_1 (puN (k + 1)) L L (0:Int) n ⟨l.length,f,iLI l⟩ = some (IV (chk n l (-1))):=h
   rw [h]
   cases Nat.blt 6 l.length <;> rfl
theorem pu_check26_ok (k f:Nat) {n:Nat} {l:List Nat} (h:Good n l):puN (k + 2) 26 [seaF n f l] = some (IV 0):=by
 have hc:=pu_check26 k f (Int.ofNat n) (l:=l.map Int.ofNat) (by have:=h.few;simp;omega)
 rw [checkI_ok h.pos h.le h.few h.up h.lt] at hc
 have e:seaF n f l = .agg ⟨[IV (Int.ofNat n),slI f (l.map Int.ofNat)]⟩:=by unfold seaF slI;rw [vL_iLI,List.length_map]
 rw [e];exact hc
end Go.RgP
set_option maxRecDepth 100000
set_option maxHeartbeats 4000000
namespace Go.RgP
open Go Go.Sp Go.RgFM
theorem before_loop (pu : PureF) (L : Nat) {a b : List Nat} (ha : a.length < 900000) (f1 f2 : Nat) : ∀ (r r' : List Nat) (w i : Nat), a.drop i = r → b.drop i = r' → r.length < w → i ≤ a.length → i ≤ b.length →
 l97_1 pu L w ⟨a.length,f1,vL a⟩ ⟨b.length,f2,vL b⟩ (Int.ofNat i) = some (.bool (lexB r r'))
 | _,_,0,_,_,_,h,_,_=>by omega
 | [], r', w + 1, i, hd, hd', _, hi, hi' => by
  show b97_1 pu L (l97_1 pu L w) ⟨a.length,f1,vL a⟩ ⟨b.length,f2,vL b⟩ (Int.ofNat i) = _
  have h1:a.length≤i:=List.drop_eq_nil_iff.1 hd
  unfold b97_1
  show bb (ilt (Int.ofNat i) (Int.ofNat a.length)) _ (some (Value.bool (ilt (Int.ofNat a.length) (Int.ofNat b.length)))) = _
  rw [ilt_nat,show Nat.blt i a.length = false from by rw [blt_eq];simp;omega,bb_false,ilt_nat,blt_eq]
  cases r' with
  | nil =>
   have h2:b.length≤i:=List.drop_eq_nil_iff.1 hd'
   rw [decide_eq_false (by omega)];rfl
  | cons y r' =>
   have:=(drop_next hd').2.1
   rw [decide_eq_true (by omega)];rfl
 | x :: r, r', w + 1, i, hd, hd', hw, hi, hi' => by
  show b97_1 pu L (l97_1 pu L w) ⟨a.length,f1,vL a⟩ ⟨b.length,f2,vL b⟩ (Int.ofNat i) = _
  obtain ⟨hd2,hi2,_⟩:=drop_next hd
  have hr:(x :: r).length = r.length + 1:=rfl
  have hlt:Nat.blt i a.length = true:=by rw [blt_eq];simp;omega
  unfold b97_1
  show bb (ilt (Int.ofNat i) (Int.ofNat a.length)) (m97_2 pu L (l97_1 pu L w) ⟨a.length,f1,vL a⟩ ⟨b.length,f2,vL b⟩ (Int.ofNat i) (ilt (Int.ofNat i) (Int.ofNat b.length))) _ = _
  rw [ilt_nat,ilt_nat,hlt,bb_true]
  unfold m97_2
  cases r' with
  | nil =>
   have h2:b.length≤i:=List.drop_eq_nil_iff.1 hd'
   rw [show Nat.blt i b.length = false from by rw [blt_eq];simp;omega,bb_false]
   show some (Value.bool (ilt (Int.ofNat a.length) (Int.ofNat b.length))) = _
   rw [ilt_nat,blt_eq,decide_eq_false (by omega)];rfl
  | cons y r' =>
   obtain ⟨hd3,hi3,_⟩:=drop_next hd'
   have hlt2:Nat.blt i b.length = true:=by rw [blt_eq];simp;omega
   have ih:=before_loop pu L ha f1 f2 r r' w (i + 1) hd2 hd3 (by omega) (by omega) (by omega)
   rw [hlt2,bb_true,show toN (Int.ofNat i) = some i from rfl,oo_some]
   show bb (an (Nat.blt i a.length) true) (oo (nthL (vL a) (i * 1)) none fun v=>oo (toI .i64 v) none fun x1=>bb (an (Nat.blt i b.length) true) (oo (nthL (vL b) (i * 1)) none fun v=>oo (toI .i64 v) none fun x2=>bb (nt (ieq x1 x2)) (bb (an (Nat.blt i a.length) true) (oo (nthL (vL a) (i * 1)) none fun v=>oo (toI .i64 v) none fun x3=>bb (an (Nat.blt i b.length) true) (oo (nthL (vL b) (i * 1)) none fun v=>oo (toI .i64 v) none fun x4=>some (.bool (ilt x3 x4))) none) none) (l97_1 pu L w ⟨a.length,f1,vL a⟩ ⟨b.length,f2,vL b⟩ (wrapF .i64 (Int.add (Int.ofNat i) (1:Int))))) none) none = _
   rw [hlt,hlt2,show an true true = true from rfl,bb_true,vL_get hd,vL_get hd',oo_some,show ∀ z,toI .i64 (IV z) = some z from fun _=>rfl,oo_some,bb_true,oo_some,show ∀ z,toI .i64 (IV z) = some z from fun _=>rfl,oo_some,wrapS i (by omega),ih,ieq_nat,bb_true,oo_some]
   show bb (nt (Nat.beq x y)) (some (Value.bool (ilt (Int.ofNat x) (Int.ofNat y)))) (some (Value.bool (lexB r r'))) = _
   rw [ilt_nat,lexB_cons]
   cases Nat.beq x y <;> rfl
theorem p97 (k:Nat) (args:List Value):puN (k + 1) 97 args = m97 (puN k) L args:=by kernel_rfl
theorem pu_before (k f1 f2:Nat) {a b:List Nat} (ha:a.length < 900000):puN (k + 1) 97 [Sl.v 1 ⟨a.length,f1,vL a⟩,Sl.v 1 ⟨b.length,f2,vL b⟩] = some (.bool (lexB a b)):=by
 rw [p97]
 exact before_loop (puN k) L ha f1 f2 a b L 0 List.drop_zero List.drop_zero (by show _ < 1000000;omega) (by omega) (by omega)
theorem p72 (k:Nat) (args:List Value):puN (k + 1) 72 args = m72 (puN k) L args:=by kernel_rfl
theorem pu_same72 (k f1 f2:Nat) {a b:List Nat} (ha:a.length < 900000) (hb:b.length < 900000):puN (k + 2) 72 [Sl.v 1 ⟨a.length,f1,vL a⟩,Sl.v 1 ⟨b.length,f2,vL b⟩] = some (.bool (decide (a = b))):=by
 rw [p72]
 show m72_ (puN (k + 1)) L ⟨a.length,f1,vL a⟩ ⟨b.length,f2,vL b⟩ = _
 unfold m72_ m72_0
 rw [pu_before k f1 f2 ha,oo_some,show ∀ b,vBool (Value.bool b) = some b from fun _=>rfl,oo_some,pu_before k f2 f1 hb,oo_some,show ∀ b,vBool (Value.bool b) = some b from fun _=>rfl,oo_some]
 by_cases h:a = b
 ·subst h;rw [lexB_irr,decide_eq_true rfl];rfl
 ·rw [decide_eq_false h]
  cases h1:lexB a b with
  | true=>rfl
  | false =>
   cases h2:lexB b a with
   | true=>rfl
   | false=>exact absurd (lexB_tot h1 h2) h
def hits (f:Nat→Nat) (r:List Nat) (p:Nat):List Nat:=(r.filter fun x=>Nat.beq (f x) p).map fun _=>p
def movF (f : Nat → Nat) (l : List Nat) : Nat → Nat → List Nat
 | 0,_=>[]
 | k + 1,p=>hits f l p ++ movF f l k (p + 1)
theorem hits_cons (f:Nat→Nat) (x:Nat) (r:List Nat) (p:Nat):hits f (x :: r) p = (bif Nat.beq (f x) p then p :: hits f r p else hits f r p):=by
 unfold hits
 rw [List.filter_cons]
 cases Nat.beq (f x) p <;> rfl
theorem moved_inner (k : Nat) {n : Nat} {l : List Nat} (h : Good n l) (fl : Nat) {m b : Int} (hm : -100 ≤ m) (hm2 : m ≤ 100) (hb : -1000 ≤ b) (hb2 : b ≤ 1000) (ih0 : Int → Int → Int → Int → Sl → Int → Int → Nat → Nat → List Value → Option Value) (p : Nat) (hp : p < n) (z1 z2 : Int) :
 ∀ (r:List Nat) (w i c:Nat) (q:List Nat),l.drop i = r→r.length < w→i≤l.length→q.length + r.length≤1000→c / 2 = q.length→c % 2 = 0 →
 ∃ c', c' / 2 = (q ++ hits (fun x => plc n ((x : Int) * m + b)) r p).length ∧ c' % 2 = 0 ∧ l67_3 (puN (k + 1)) L ih0 w m b (Int.ofNat p) (Int.ofNat i) (Int.ofNat n) ⟨l.length, fl, vL l⟩ z1 z2 q.length c (vL q) =
  ih0 m b (Int.ofNat (p + 1)) (Int.ofNat n) ⟨l.length,fl,vL l⟩ z1 z2 (q ++ hits (fun x=>plc n ((x:Int) * m + b)) r p).length c' (vL (q ++ hits (fun x=>plc n ((x:Int) * m + b)) r p))
 | _,0,_,_,_,_,hw,_,_,_,_=>by omega
 | [], w + 1, i, c, q, hd, _, hi, _, hc, hc2 => by
  have h1:l.length≤i:=List.drop_eq_nil_iff.1 hd
  have hn:=h.le
  refine ⟨c,by rw [hc];simp [hits],hc2,?_⟩
  show b67_3 (puN (k + 1)) L ih0 (l67_3 (puN (k + 1)) L ih0 w) m b (Int.ofNat p) (Int.ofNat i) (Int.ofNat n) ⟨l.length,fl,vL l⟩ z1 z2 q.length c (vL q) = _
  unfold b67_3
  rw [vL_closed,bb_true]
  show bb (ilt (Int.ofNat i) (Int.ofNat l.length)) _ _ = _
  rw [ilt_nat,show Nat.blt i l.length = false from by rw [blt_eq];simp;omega,bb_false]
  unfold m67_2
  rw [vL_closed,bb_true,wrapS p (by omega)]
  show _ = ih0 m b (Int.ofNat (p + 1)) (Int.ofNat n) ⟨l.length,fl,vL l⟩ z1 z2 (q ++ []).length c (vL (q ++ []))
  rw [List.append_nil]
 | x :: r, w + 1, i, c, q, hd, hw, hi, hq, hc, hc2 => by
  obtain ⟨hd2,hi2,hx⟩:=drop_next hd
  have hr:(x :: r).length = r.length + 1:=rfl
  have hlt:Nat.blt i l.length = true:=by rw [blt_eq];simp;omega
  have hn:=h.le
  have hxn:=h.lt x hx
  have hfew:=h.few
  have b1:-3200≤(x:Int) * m:=by
   have:(x:Int) * (-100)≤(x:Int) * m:=Int.mul_le_mul_of_nonneg_left hm (by omega)
   omega
  have b2:(x:Int) * m≤3200:=by
   have:(x:Int) * m≤(x:Int) * 100:=Int.mul_le_mul_of_nonneg_left hm2 (by omega)
   omega
  have e1:wrapF .i64 (Int.mul (Int.ofNat x) m) = (x:Int) * m:=wrapI _ (by show _≤(x:Int) * m;omega) (by show (x:Int) * m≤_;omega)
  have e2:wrapF .i64 (Int.add ((x:Int) * m) b) = (x:Int) * m + b:=wrapI _ (by show _≤(x:Int) * m + b;omega) (by show (x:Int) * m + b≤_;omega)
  have eq : l67_3 (puN (k + 1)) L ih0 (w + 1) m b (Int.ofNat p) (Int.ofNat i) (Int.ofNat n) ⟨l.length, fl, vL l⟩ z1 z2 q.length c (vL q) =
   bb (Nat.beq (plc n ((x:Int) * m + b)) p) (l67_3 (puN (k + 1)) L ih0 w m b (Int.ofNat p) (Int.ofNat (i + 1)) (Int.ofNat n) ⟨l.length,fl,vL l⟩ z1 z2 (q.length + 1) (2 * (q.length + 1) + bb false 1 0) (vL (q ++ [p]))) (l67_3 (puN (k + 1)) L ih0 w m b (Int.ofNat p) (Int.ofNat (i + 1)) (Int.ofNat n) ⟨l.length,fl,vL l⟩ z1 z2 q.length c (vL q)):=by
   show b67_3 (puN (k + 1)) L ih0 (l67_3 (puN (k + 1)) L ih0 w) m b (Int.ofNat p) (Int.ofNat i) (Int.ofNat n) ⟨l.length,fl,vL l⟩ z1 z2 q.length c (vL q) = _
   unfold b67_3
   rw [vL_closed,bb_true]
   show bb (ilt (Int.ofNat i) (Int.ofNat l.length)) (oo (toN (Int.ofNat i)) none _) _ = _
   rw [ilt_nat,hlt,bb_true,show toN (Int.ofNat i) = some i from rfl,oo_some]
   show bb (an (Nat.blt i l.length) true) (oo (nthL (vL l) (i * 1)) none _) none = _
   rw [hlt,show an true true = true from rfl,bb_true,vL_get hd,oo_some,show ∀ z,toI .i64 (IV z) = some z from fun _=>rfl,oo_some,e1,e2]
   show oo (puN (k + 1) 64 [IV ((x:Int) * m + b),IV (Int.ofNat n)]) none _ = _
   rw [pu_rest k h.pos (by omega),oo_some]
   unfold m67_4
   show bb (ieq (Int.ofNat (plc n ((x:Int) * m + b))) (Int.ofNat p)) (bb (growC 1 8 q.length c 1 (vL q)) (bb (allL closed1 (appL (dropL 0 (vL q)) [.int .i64 (Int.ofNat p)])) (bb (allL closed1 (appL (dropL 0 (vL q)) [.int .i64 (Int.ofNat p)])) (l67_3 (puN (k + 1)) L ih0 w m b (Int.ofNat p) (wrapF .i64 (Int.add (Int.ofNat i) (1:Int))) (Int.ofNat n) ⟨l.length,fl,vL l⟩ z1 z2 (q.length + 1) (2 * (q.length + 1) + bb false 1 0) (appL (dropL 0 (vL q)) [.int .i64 (Int.ofNat p)])) none) none) none) (bb (allL closed1 (vL q)) (l67_3 (puN (k + 1)) L ih0 w m b (Int.ofNat p) (wrapF .i64 (Int.add (Int.ofNat i) (1:Int))) (Int.ofNat n) ⟨l.length,fl,vL l⟩ z1 z2 q.length c (vL q)) none) = _
   rw [ieq_nat,grow_vL (by omega) hc hc2,vL_snoc,vL_closed,vL_closed,wrapS i (by omega)];rfl
  rw [eq,hits_cons]
  cases hbq:Nat.beq (plc n ((x:Int) * m + b)) p with
  | true =>
   obtain ⟨c',h1,h2,h3⟩:=moved_inner k h fl hm hm2 hb hb2 ih0 p hp z1 z2 r w (i + 1) (2 * (q.length + 1) + bb false 1 0) (q ++ [p]) hd2 (by omega) (by omega) (by simp;omega) (by simp) (by simp)
   rw [List.length_append,show [p].length = 1 from rfl] at h3
   rw [List.append_assoc] at h1 h3
   exact ⟨c',h1,h2,h3⟩
  | false=>exact moved_inner k h fl hm hm2 hb hb2 ih0 p hp z1 z2 r w (i + 1) c q hd2 (by omega) (by omega) (by omega) hc hc2
theorem hits_len (f:Nat→Nat) (l:List Nat) (p:Nat):(hits f l p).length≤l.length:=by
 unfold hits
 rw [List.length_map];exact List.filter_sublist.length_le
theorem moved_outer (k : Nat) {n : Nat} {l : List Nat} (h : Good n l) (fl : Nat) {m b : Int} (hm : -100 ≤ m) (hm2 : m ≤ 100) (hb : -1000 ≤ b) (hb2 : b ≤ 1000) (z1 : Int) : ∀ (j w p c : Nat) (q : List Nat), j < w → p + j = n → q.length ≤ p * 6 → c / 2 = q.length → c % 2 = 0 →
 l67_1 (puN (k + 1)) L w m b (Int.ofNat p) (Int.ofNat n) ⟨l.length,fl,vL l⟩ z1 (Int.ofNat n) q.length c (vL q) = some (seaF n 0 (q ++ movF (fun x=>plc n ((x:Int) * m + b)) l j p))
 | j,0,_,_,_,hw,_,_,_,_=>by omega
 | 0, w + 1, p, c, q, _, hk, _, _, _ => by
  show b67_1 (puN (k + 1)) L (l67_1 (puN (k + 1)) L w) m b (Int.ofNat p) (Int.ofNat n) ⟨l.length,fl,vL l⟩ z1 (Int.ofNat n) q.length c (vL q) = _
  unfold b67_1
  rw [vL_closed,bb_true,ilt_nat,show Nat.blt p n = false from by rw [blt_eq];simp;omega,bb_false]
  unfold m67_0
  have e1:takeL (q.length * 1) (dropL 0 (vL q)) = vL q:=by
   rw [takeL_eq,dropL_eq,List.drop_zero,Nat.mul_one,←vL_len q,List.take_length]
  rw [e1,vL_closed,bb_true,len_eq,vL_len,show Nat.ble (0 + q.length * 1) q.length = true from Nat.ble_eq_true_of_le (by omega)]
  show _ = some (seaF n 0 (q ++ []))
  rw [List.append_nil];rfl
 | j + 1, w + 1, p, c, q, hw, hk, hq, hc, hc2 => by
  show b67_1 (puN (k + 1)) L (l67_1 (puN (k + 1)) L w) m b (Int.ofNat p) (Int.ofNat n) ⟨l.length,fl,vL l⟩ z1 (Int.ofNat n) q.length c (vL q) = _
  have hn:=h.le
  have hfew:=h.few
  unfold b67_1
  rw [vL_closed,bb_true,ilt_nat,show Nat.blt p n = true from by rw [blt_eq];simp;omega,bb_true]
  obtain ⟨c',h1,h2,h3⟩:=moved_inner k h fl hm hm2 hb hb2 (l67_1 (puN (k + 1)) L w) p (by omega) z1 (Int.ofNat n) l L 0 c q List.drop_zero (by show _ < 1000000;omega) (by omega) (by omega) hc hc2
  have h3:l67_3 (puN (k + 1)) L (l67_1 (puN (k + 1)) L w) L m b (Int.ofNat p) (0:Int) (Int.ofNat n) ⟨l.length,fl,vL l⟩ z1 (Int.ofNat n) q.length c (vL q) = _:=h3
  have hh:=hits_len (fun x=>plc n ((x:Int) * m + b)) l p
  rw [h3,moved_outer k h fl hm hm2 hb hb2 z1 j w (p + 1) c' _ (by omega) (by omega) (by rw [List.length_append];omega) h1 h2,List.append_assoc];rfl
theorem hits_inj {f:Nat→Nat} {l:List Nat} (hl:l.Nodup) (hf:∀ a ∈ l,∀ b ∈ l,f a = f b→a = b) (p:Nat):(hits f l p).length≤1:=by
 unfold hits
 rw [List.length_map]
 refine Nat.le_of_not_lt fun h=>?_
 have hnd:=nodup_filter (p:=fun x=>Nat.beq (f x) p) hl
 match hL:l.filter fun x=>Nat.beq (f x) p,h,hnd with
 | x :: y :: r, _, hnd =>
  have hx:x ∈ l.filter fun x=>Nat.beq (f x) p:=by rw [hL];exact List.mem_cons_self
  have hy:y ∈ l.filter fun x=>Nat.beq (f x) p:=by rw [hL];exact List.mem_cons_of_mem _ List.mem_cons_self
  obtain ⟨x1,x2⟩:=List.mem_filter.1 hx
  obtain ⟨y1,y2⟩:=List.mem_filter.1 hy
  have:=hf x x1 y y1 ((Nat.eq_of_beq_eq_true x2).trans (Nat.eq_of_beq_eq_true y2).symm)
  subst this
  exact (List.nodup_cons.1 hnd).1 List.mem_cons_self
theorem hits_mem {f:Nat→Nat} {l:List Nat} {p x:Nat}:x ∈ hits f l p↔x = p∧∃ a ∈ l,f a = p:=by
 unfold hits
 rw [List.mem_map]
 constructor
 ·rintro ⟨a, ha, rfl⟩
  obtain ⟨h1,h2⟩:=List.mem_filter.1 ha
  exact ⟨rfl,a,h1,Nat.eq_of_beq_eq_true h2⟩
 ·rintro ⟨rfl, a, h1, h2⟩
  exact ⟨a,List.mem_filter.2 ⟨h1,by rw [h2,Nat.beq_refl]⟩,rfl⟩
theorem movF_mem (f : Nat → Nat) (l : List Nat) : ∀ (k p x : Nat), x ∈ movF f l k p ↔ p ≤ x ∧ x < p + k ∧ ∃ a ∈ l, f a = x
 | 0,p,x=>by simp [movF];omega
 | k + 1, p, x => by
  show x ∈ hits f l p ++ movF f l k (p + 1)↔_
  rw [List.mem_append,hits_mem,movF_mem f l k (p + 1) x]
  constructor
  ·rintro (⟨rfl, h⟩ | ⟨h1, h2, h3⟩)
   ·exact ⟨Nat.le_refl _,by omega,h⟩
   ·exact ⟨by omega,by omega,h3⟩
  ·rintro ⟨h1, h2, h3⟩
   by_cases h:x = p
   ·exact .inl ⟨h,h ▸ h3⟩
   ·exact .inr ⟨by omega,by omega,h3⟩
theorem movF_sorted {f : Nat → Nat} {l : List Nat} (hl : l.Nodup) (hf : ∀ a ∈ l, ∀ b ∈ l, f a = f b → a = b) : ∀ (k p : Nat), (movF f l k p).Pairwise (· < ·)
 | 0,p=>by simp [movF]
 | k + 1, p => by
  have ih:=movF_sorted hl hf k (p + 1)
  have h1:=hits_inj hl hf p
  show (hits f l p ++ movF f l k (p + 1)).Pairwise _
  refine List.pairwise_append.2 ⟨?_,ih,fun a ha b hb=>?_⟩
  ·match hits f l p, h1 with
   | [],_=>exact .nil
   | [x],_=>exact List.pairwise_singleton _ _
  ·have := (hits_mem.1 ha).1
   have:=(movF_mem f l k (p + 1) b).1 hb
   omega
theorem movF_eq {n:Nat} (hn:n≤31) {f:Nat→Nat} {l:List Nat} (hl:l.Nodup) (hlt:∀ x ∈ l,f x < n) (hf:∀ a ∈ l,∀ b ∈ l,f a = f b→a = b):movF f l n 0 = marksN n (setOf f l 0):=by
 have hz:=setOf_lt f (l:=l) (Nat.two_pow_pos n) hlt
 have hz32:=lt32 hn hz
 refine sorted_ext (movF_sorted hl hf n 0) (marks_sorted hz32) fun x=>?_
 rw [movF_mem,mem_marks hz32,setOf_bit,Nat.zero_testBit,Bool.false_or]
 simp only [List.any_eq_true,decide_eq_true_eq]
 constructor
 ·rintro ⟨_,h1,h2⟩;exact ⟨by omega,h2⟩
 ·rintro ⟨h1,h2⟩;exact ⟨by omega,by omega,h2⟩
theorem p67 (k:Nat) (args:List Value):puN (k + 1) 67 args = m67 (puN k) L args:=by kernel_rfl
theorem pu_movedR (k fl : Nat) {n : Nat} {l : List Nat} (h : Good n l) {m b : Int} (hm : -100 ≤ m) (hm2 : m ≤ 100) (hb : -1000 ≤ b) (hb2 : b ≤ 1000) (hf : ∀ x ∈ l, ∀ y ∈ l, plc n ((x : Int) * m + b) = plc n ((y : Int) * m + b) → x = y) :
 puN (k + 2) 67 [seaF n fl l,IV m,IV b] = some (seaF n 0 (marksN n (setOf (fun x=>plc n ((x:Int) * m + b)) l 0))):=by
 have hn:=h.le
 rw [p67]
 have hl:=moved_outer k h fl hm hm2 hb hb2 0 n L 0 0 [] (by show n < 1000000;omega) (by omega) (by simp) rfl rfl
 rw [List.nil_append,movF_eq (by omega) (nodup_of_lt h.up) (fun x _=>plc_lt h.pos _) hf] at hl
 exact hl
theorem inj1 {n:Nat} {l:List Nat} (h:Good n l) (b:Int):∀ x ∈ l,∀ y ∈ l,plc n ((x:Int) * 1 + b) = plc n ((y:Int) * 1 + b)→x = y:=by
 intro x hx y hy e
 have h1:=h.lt x hx
 have h2:=h.lt y hy
 have hb:=plc_lt h.pos b
 rw [Int.mul_one,Int.mul_one,plc_add h.pos,plc_add h.pos,plc_nat,plc_nat,Nat.mod_eq_of_lt h1,Nat.mod_eq_of_lt h2,mod_add h1 hb,mod_add h2 hb] at e
 revert e
 repeat' split
 all_goals omega
theorem pu_turnR (k fl:Nat) {n:Nat} {l:List Nat} (h:Good n l) {b:Nat} (hb:b < n):puN (k + 2) 67 [seaF n fl l,IV 1,IV (Int.ofNat b)] = some (seaF n 0 (marksN n (turnN n (bitsOf l) b))):=by
 have hn:=h.le
 have:=pu_movedR k fl h (m:=1) (b:=(b:Int)) (by omega) (by omega) (by omega) (by omega) (inj1 h _)
 simp only [Int.mul_one] at this
 have e:=turn_moved h.pos (by omega) (bitsOf_lt h.lt) (b:Int)
 rw [h.marks,plc_nat,Nat.mod_eq_of_lt hb] at e
 rw [e] at this
 exact this
theorem firstR_loop (k fl : Nat) {n : Nat} {l : List Nat} (h : Good n l) (z : Int) : ∀ (j w b : Nat) (best : List Nat), j < w → b + j = n → best.length < 900000 →
 l69_1 (puN (k + 2)) L w (Int.ofNat b) (Int.ofNat n) ⟨l.length,fl,vL l⟩ z (Int.ofNat n) ⟨best.length,0,vL best⟩ = some (seaF n 0 (minL best ((List.range' b j).map fun i=>marksN n (turnN n (bitsOf l) i))))
 | j,0,_,_,hw,_,_=>by omega
 | 0, w + 1, b, best, _, hb, _ => by
  show b69_1 (puN (k + 2)) L (l69_1 (puN (k + 2)) L w) (Int.ofNat b) (Int.ofNat n) ⟨l.length,fl,vL l⟩ z (Int.ofNat n) ⟨best.length,0,vL best⟩ = _
  unfold b69_1
  rw [ilt_nat,show Nat.blt b n = false from by rw [blt_eq];simp;omega];rfl
 | j + 1, w + 1, b, best, hw, hb, hbl => by
  show b69_1 (puN (k + 2)) L (l69_1 (puN (k + 2)) L w) (Int.ofNat b) (Int.ofNat n) ⟨l.length,fl,vL l⟩ z (Int.ofNat n) ⟨best.length,0,vL best⟩ = _
  have hn:=h.le
  have hml:=marks_len (n:=n) (s:=turnN n (bitsOf l) b)
  have go:=fun b' hb'=>firstR_loop k fl h z j w (b + 1) b' (by omega) (by omega) hb'
  unfold b69_1
  rw [ilt_nat,show Nat.blt b n = true from by rw [blt_eq];simp;omega,bb_true]
  show oo (puN (k + 2) 67 [seaF n fl l,IV 1,IV (Int.ofNat b)]) none _ = _
  rw [pu_turnR k fl h (by omega),oo_some]
  show oo (puN (k + 2) 97 [Sl.v 1 ⟨(marksN n (turnN n (bitsOf l) b)).length,0,vL (marksN n (turnN n (bitsOf l) b))⟩,Sl.v 1 ⟨best.length,0,vL best⟩]) none _ = _
  rw [pu_before (k + 1) 0 0 (by omega),oo_some]
  show bb (lexB (marksN n (turnN n (bitsOf l) b)) best) (l69_1 (puN (k + 2)) L w (wrapF .i64 (Int.add (Int.ofNat b) (1:Int))) (Int.ofNat n) ⟨l.length,fl,vL l⟩ z (Int.ofNat n) ⟨(marksN n (turnN n (bitsOf l) b)).length,0,vL (marksN n (turnN n (bitsOf l) b))⟩) (l69_1 (puN (k + 2)) L w (wrapF .i64 (Int.add (Int.ofNat b) (1:Int))) (Int.ofNat n) ⟨l.length,fl,vL l⟩ z (Int.ofNat n) ⟨best.length,0,vL best⟩) = _
  rw [wrapS b (by omega),go _ (by omega),go _ hbl,List.range'_succ,List.map_cons]
  show _ = some (seaF n 0 (minL (bif lexB (marksN n (turnN n (bitsOf l) b)) best then marksN n (turnN n (bitsOf l) b) else best) _))
  cases lexB (marksN n (turnN n (bitsOf l) b)) best <;> rfl
theorem p69 (k:Nat) (args:List Value):puN (k + 1) 69 args = m69 (puN k) L args:=by kernel_rfl
theorem pu_firstR (k fl:Nat) {n:Nat} {l:List Nat} (h:Good n l):puN (k + 3) 69 [seaF n fl l] = some (seaF n 0 (minT n (bitsOf l))):=by
 have hn:=h.le
 have hn0:=h.pos
 have hml:=marks_len (n:=n) (s:=turnN n (bitsOf l) 0)
 rw [p69]
 show oo (puN (k + 2) 67 [seaF n fl l,IV 1,IV (Int.ofNat 0)]) none _ = _
 rw [pu_turnR k fl h h.pos,oo_some]
 have hl:=firstR_loop k fl h 0 (n - 1) L 1 (marksN n (turnN n (bitsOf l) 0)) (by show n - 1 < 1000000;omega) (by omega) (by omega)
 have e:(List.range' 1 (n - 1)).map (fun i=>marksN n (turnN n (bitsOf l) i)) = (List.range (n - 1)).map fun i=>marksN n (turnN n (bitsOf l) (i + 1)):=by
  rw [List.range'_eq_map_range,List.map_map]
  apply List.map_congr_left
  intro i _
  show marksN n (turnN n (bitsOf l) (1 + i)) = _
  rw [Nat.add_comm]
 rw [e] at hl
 exact hl
end Go.RgP
set_option maxRecDepth 100000
set_option maxHeartbeats 4000000
namespace Go.RgP
open Go Go.Sp Go.RgFM
structure Fine (n:Nat) (l:List Nat):Prop where
 pos:0 < n
 le:n≤21
 few:l.length≤10
 lt:∀ x ∈ l,x < n
theorem Good.fine {n:Nat} {l:List Nat} (h:Good n l):Fine n l:=⟨h.pos,h.le,Nat.le_trans h.few (by omega),h.lt⟩
theorem ret75 (pu:PureF) (L:Nat) (q:List Nat) (c:Nat):m75_0 pu L q.length c (vL q) = some (slv q):=by
 unfold m75_0
 rw [vL_closed,bb_true,fin_vL]
theorem count_loop (k : Nat) {n : Nat} {l : List Nat} (h : Fine n l) (f : Nat) (ih0 : Nat → Nat → Int → Int → Sl → List Value → Option Value) (d c : Nat) (q : List Nat) (hd0 : 0 < d) (hdn : d < n) (hq : q.length ≤ 30) (hc : c / 2 = q.length) (hc2 : c % 2 = 0) :
 ∀ (r:List Nat) (w i z:Nat),l.drop i = r→r.length < w→i≤l.length→z≤i →
 l75_4 (puN (k + 1)) L ih0 w q.length c (Int.ofNat d) (Int.ofNat z) (Int.ofNat i) (Int.ofNat n) ⟨l.length, f, vL l⟩ (vL q) =
  ih0 (q.length + 1) (2 * (q.length + 1) + bb false 1 0) (Int.ofNat (d + 1)) (Int.ofNat n) ⟨l.length,f,vL l⟩ (vL (q ++ [z + r.countP fun a=>decide ((a + d) % n ∈ l)]))
 | _,0,_,_,_,hw,_,_=>by omega
 | [], w + 1, i, z, hd, _, hi, hz => by
  show b75_4 (puN (k + 1)) L ih0 (l75_4 (puN (k + 1)) L ih0 w) q.length c (Int.ofNat d) (Int.ofNat z) (Int.ofNat i) (Int.ofNat n) ⟨l.length,f,vL l⟩ (vL q) = _
  have h1:l.length≤i:=List.drop_eq_nil_iff.1 hd
  have hn:=h.le
  unfold b75_4
  rw [vL_closed,bb_true]
  show bb (ilt (Int.ofNat i) (Int.ofNat l.length)) _ _ = _
  rw [ilt_nat,show Nat.blt i l.length = false from by rw [blt_eq];simp;omega,bb_false]
  unfold m75_3 m75_2
  rw [grow_vL (by omega) hc hc2,bb_true,vL_snoc,vL_closed,bb_true,bb_true,wrapS d (by omega)];rfl
 | x :: r, w + 1, i, z, hd, hw, hi, hz => by
  show b75_4 (puN (k + 1)) L ih0 (l75_4 (puN (k + 1)) L ih0 w) q.length c (Int.ofNat d) (Int.ofNat z) (Int.ofNat i) (Int.ofNat n) ⟨l.length,f,vL l⟩ (vL q) = _
  obtain ⟨hd2,hi2,hx⟩:=drop_next hd
  have hr:(x :: r).length = r.length + 1:=rfl
  have hlt:Nat.blt i l.length = true:=by rw [blt_eq];simp;omega
  have hn:=h.le
  have hfew:=h.few
  have hxn:=h.lt x hx
  have go:=fun z' hz'=>count_loop k h f ih0 d c q hd0 hdn hq hc hc2 r w (i + 1) z' hd2 (by omega) (by omega) hz'
  have e1:wrapF .i64 (Int.add (Int.ofNat x) (Int.ofNat d)) = ((x + d:Nat):Int):=by
   show wrapF .i64 ((x:Int) + (d:Int)) = _
   rw [wrapI _ (by omega) (by omega)];omega
  have e2:plc n ((x + d:Nat):Int) = (x + d) % n:=plc_nat _
  unfold b75_4
  rw [vL_closed,bb_true]
  show bb (ilt (Int.ofNat i) (Int.ofNat l.length)) (oo (toN (Int.ofNat i)) none _) _ = _
  rw [ilt_nat,hlt,bb_true,show toN (Int.ofNat i) = some i from rfl,oo_some]
  show bb (an (Nat.blt i l.length) true) (oo (nthL (vL l) (i * 1)) none _) none = _
  rw [hlt,show an true true = true from rfl,bb_true,vL_get hd,oo_some,show ∀ z,toI .i64 (IV z) = some z from fun _=>rfl,oo_some,e1]
  show oo (puN (k + 1) 64 [IV ((x + d:Nat):Int),IV (Int.ofNat n)]) none _ = _
  rw [pu_rest k h.pos (by omega),e2,oo_some]
  show oo (puN (k + 1) 63 [seaF n f l,IV (Int.ofNat ((x + d) % n))]) none _ = _
  rw [pu_marked k n f _ (by omega),oo_some]
  show bb (decide ((x + d) % n ∈ l)) (m75_5 (puN (k + 1)) L ih0 (l75_4 (puN (k + 1)) L ih0 w) q.length c (Int.ofNat d) (wrapF .i64 (Int.add (Int.ofNat z) (1:Int))) (Int.ofNat i) (Int.ofNat n) ⟨l.length,f,vL l⟩ (vL q)) (m75_5 (puN (k + 1)) L ih0 (l75_4 (puN (k + 1)) L ih0 w) q.length c (Int.ofNat d) (Int.ofNat z) (Int.ofNat i) (Int.ofNat n) ⟨l.length,f,vL l⟩ (vL q)) = _
  unfold m75_5
  rw [vL_closed,bb_true,wrapS i (by omega),wrapS z (by omega),List.countP_cons]
  by_cases hm:(x + d) % n ∈ l
  ·rw [decide_eq_true hm,bb_true,go (z + 1) (by omega),if_pos rfl,Nat.add_comm (List.countP _ r) 1,Nat.add_assoc]
  ·rw [decide_eq_false hm,bb_false,bb_true,go z (by omega)];rfl
theorem dists_loop (k : Nat) {n : Nat} {l : List Nat} (h : Fine n l) (f : Nat) : ∀ (j w d c : Nat) (q : List Nat), j < w → d + j = n → 0 < d → q.length = d - 1 → c / 2 = q.length → c % 2 = 0 →
 l75_1 (puN (k + 1)) L w q.length c (Int.ofNat d) (Int.ofNat n) ⟨l.length,f,vL l⟩ (vL q) = some (slv (q ++ (List.range j).map fun i=>cntD n l (d + i)))
 | j,0,_,_,_,hw,_,_,_,_,_=>by omega
 | 0, w + 1, d, c, q, _, hd, h0, _, _, _ => by
  show b75_1 (puN (k + 1)) L (l75_1 (puN (k + 1)) L w) q.length c (Int.ofNat d) (Int.ofNat n) ⟨l.length,f,vL l⟩ (vL q) = _
  unfold b75_1
  rw [vL_closed,bb_true,ilt_nat,show Nat.blt d n = false from by rw [blt_eq];simp;omega,bb_false,ret75]
  show _ = some (slv (q ++ []))
  rw [List.append_nil]
 | j + 1, w + 1, d, c, q, hw, hd, h0, hq, hc, hc2 => by
  show b75_1 (puN (k + 1)) L (l75_1 (puN (k + 1)) L w) q.length c (Int.ofNat d) (Int.ofNat n) ⟨l.length,f,vL l⟩ (vL q) = _
  have hn:=h.le
  have hfew:=h.few
  unfold b75_1
  rw [vL_closed,bb_true,ilt_nat,show Nat.blt d n = true from by rw [blt_eq];simp;omega,bb_true]
  have hcount:=count_loop k h f (l75_1 (puN (k + 1)) L w) d c q h0 (by omega) (by omega) hc hc2 l L 0 0 List.drop_zero (by show _ < 1000000;omega) (by omega) (Nat.le_refl _)
  have hcount:l75_4 (puN (k + 1)) L (l75_1 (puN (k + 1)) L w) L q.length c (Int.ofNat d) (0:Int) (0:Int) (Int.ofNat n) ⟨l.length,f,vL l⟩ (vL q) = _:=hcount
  have ih:=dists_loop k h f j w (d + 1) (2 * (q.length + 1) + bb false 1 0) (q ++ [cntD n l d]) (by omega) (by omega) (by omega) (by simp;omega) (by simp) (by simp)
  rw [List.length_append,show [cntD n l d].length = 1 from rfl] at ih
  rw [hcount,Nat.zero_add,show (l.countP fun a=>decide ((a + d) % n ∈ l)) = cntD n l d from rfl,ih,List.append_assoc,List.range_succ_eq_map,List.map_cons,List.map_map]
  congr 4
  show [cntD n l d] ++ _ = _
  rw [List.singleton_append,Nat.add_zero]
  congr 1
  apply List.map_congr_left
  intro i _
  show cntD n l (d + 1 + i) = cntD n l (d + (i + 1))
  rw [show d + 1 + i = d + (i + 1) by omega]
theorem p75 (k:Nat) (args:List Value):puN (k + 1) 75 args = m75 (puN k) L args:=by kernel_rfl
theorem pu_dists75 (k f:Nat) {n:Nat} {l:List Nat} (h:Fine n l):puN (k + 2) 75 [seaF n f l] = some (slv (dists n l)):=by
 have hn0:=h.pos
 have hn:=h.le
 rw [p75]
 have hl:=dists_loop k h f (n - 1) L 1 0 [] (by show n - 1 < 1000000;omega) (by omega) (by omega) rfl rfl rfl
 have e:(List.range (n - 1)).map (fun i=>cntD n l (1 + i)) = dists n l:=by
  unfold dists
  apply List.map_congr_left
  intro i _
  rw [Nat.add_comm]
 rw [List.nil_append,e] at hl
 exact hl
end Go.RgP
