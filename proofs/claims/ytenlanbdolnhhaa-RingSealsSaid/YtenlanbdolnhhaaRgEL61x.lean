/- The reference: rest, marked, is, Check. -/
import Derived.Test.YtenlanbdolnhhaaRgELwx

set_option maxRecDepth 100000
set_option maxHeartbeats 4000000
namespace Go.RgP
open Go Go.Sp Go.RgEM
theorem p64 (k:Nat) (args:List Value):puN (k + 1) 64 args = m64 (puN k) L args:=by kernel_rfl
theorem pu_rest (k:Nat) {n:Nat} (hn0:0 < n) (hn:n≤60) (x:Int):puN (k + 1) 64 [IV x,IV (Int.ofNat n)] = some (IV (Int.ofNat (plc n x))):=by
 rw [p64]
 show m64_ (puN k) L x (Int.ofNat n) = _
 unfold m64_ m64_0
 have hp:(0:Int) < (n:Int):=by omega
 have e:ieq (Int.ofNat n) 0 = false:=by rw [show (0:Int) = Int.ofNat 0 from rfl,ieq_nat];exact beq_ne (by omega)
 have g1:=Int.tmod_lt_of_pos x hp
 have g2:-(n:Int) < Int.tmod x n:=by
  have:=Int.lt_tmod_of_pos x hp;omega
 have hpl:=plc_cast hn0 x
 have h3:Int.tmod x (n:Int) + (n:Int) = x + (n:Int) * (1 - Int.tdiv x n):=by
  have:=Int.mul_tdiv_add_tmod x (n:Int)
  rw [Int.mul_sub];omega
 rw [e,show nt false = true from rfl,bb_true,ilt_eq]
 show bb (decide (Int.tmod x (n:Int) < 0)) (some (IV (wrapF .i64 (Int.tmod x (n:Int) + (n:Int))))) (some (IV (Int.tmod x (n:Int)))) = some (IV ((plc n x:Nat):Int))
 by_cases h:Int.tmod x (n:Int) < 0
 ·rw [decide_eq_true h, bb_true, wrapI _ (by omega) (by omega), hpl]
  have:(Int.tmod x (n:Int) + (n:Int)) % (n:Int) = x % (n:Int):=by rw [h3,Int.add_mul_emod_self_left]
  rw [←this,Int.emod_eq_of_lt (by omega) (by omega)]
 ·rw [decide_eq_false h, bb_false, hpl]
  have h4:Int.tmod x (n:Int) = x + (n:Int) * (- Int.tdiv x n):=by
   have:=Int.mul_tdiv_add_tmod x (n:Int)
   rw [Int.mul_neg];omega
  have:(Int.tmod x (n:Int)) % (n:Int) = x % (n:Int):=by rw [h4,Int.add_mul_emod_self_left]
  rw [←this,Int.emod_eq_of_lt (by omega) (by omega)]
theorem marked_loop (pu : PureF) (L : Nat) {l : List Nat} (hl : l.length < 900000) (f p : Nat) (z : Int) : ∀ (r : List Nat) (w i : Nat), l.drop i = r → r.length < w → i ≤ l.length →
 l63_1 pu L w (Int.ofNat p) (Int.ofNat i) z ⟨l.length,f,vL l⟩ = some (.bool (decide (p ∈ r)))
 | _,0,_,_,h,_=>by omega
 | [], w + 1, i, hd, _, hi => by
  show b63_1 pu L (l63_1 pu L w) (Int.ofNat p) (Int.ofNat i) z ⟨l.length,f,vL l⟩ = _
  have h1:l.length≤i:=List.drop_eq_nil_iff.1 hd
  unfold b63_1
  show bb (ilt (Int.ofNat i) (Int.ofNat l.length)) _ _ = _
  rw [ilt_nat,show Nat.blt i l.length = false from by rw [blt_eq];simp;omega];rfl
 | x :: r, w + 1, i, hd, hw, hi => by
  show b63_1 pu L (l63_1 pu L w) (Int.ofNat p) (Int.ofNat i) z ⟨l.length,f,vL l⟩ = _
  obtain ⟨hd2,hi2,_⟩:=drop_next hd
  have hr:(x :: r).length = r.length + 1:=rfl
  have hlt:Nat.blt i l.length = true:=by rw [blt_eq];simp;omega
  have ih:=marked_loop pu L hl f p z r w (i + 1) hd2 (by omega) (by omega)
  unfold b63_1
  show bb (ilt (Int.ofNat i) (Int.ofNat l.length)) (oo (toN (Int.ofNat i)) none _) _ = _
  rw [ilt_nat,hlt,bb_true,show toN (Int.ofNat i) = some i from rfl,oo_some]
  show bb (an (Nat.blt i l.length) true) (oo (nthL (vL l) (i * 1)) none _) none = _
  rw [hlt,show an true true = true from rfl,bb_true,vL_get hd,oo_some,show ∀ z,toI .i64 (IV z) = some z from fun _=>rfl,oo_some,wrapS i (by omega),ih,ieq_nat,beq_dec]
  by_cases h:x = p
  ·subst h;simp
  ·have : ¬ p = x := fun e => h e.symm
   simp [h,this]
theorem p63 (k:Nat) (args:List Value):puN (k + 1) 63 args = m63 (puN k) L args:=by kernel_rfl
theorem pu_marked (k n f p:Nat) {l:List Nat} (hl:l.length < 900000):puN (k + 1) 63 [seaF n f l,IV (Int.ofNat p)] = some (.bool (decide (p ∈ l))):=by
 rw [p63]
 exact marked_loop (puN k) L hl f p (Int.ofNat n) l L 0 List.drop_zero (by show _ < 1000000;omega) (by omega)
theorem p73 (k:Nat) (args:List Value):puN (k + 1) 73 args = m73 (puN k) L args:=by kernel_rfl
theorem pu_is (k:Nat) (x a b:Int):puN (k + 1) 73 [IV x,IV a,IV b] = some (.bool (decide (a≤x∧x≤b))):=by
 rw [p73]
 show bb (nt (ilt x a)) (some (Value.bool (nt (ilt b x)))) (some (Value.bool false)) = _
 rw [ilt_eq,ilt_eq]
 by_cases h1:x < a
 ·rw [decide_eq_true h1,decide_eq_false (show ¬ (a≤x∧x≤b) by omega)];rfl
 ·rw [decide_eq_false h1]
  by_cases h2:b < x
  ·rw [decide_eq_true h2,decide_eq_false (show ¬ (a≤x∧x≤b) by omega)];rfl
  ·rw [decide_eq_false h2,decide_eq_true (show a≤x∧x≤b by omega)];rfl
theorem check26_loop (k : Nat) {n : Int} (hn : 1 ≤ n) (hn2 : n ≤ 21) {l : List Int} (hl : l.length < 900000) (f : Nat) : ∀ (r : List Int) (w i : Nat) (last : Int), l.drop i = r → r.length < w → i ≤ l.length → (i = 0 → last = -1) → (0 < i → l[i - 1]? = some last) →
 l26_1 (puN (k + 1)) L w (Int.ofNat i) n ⟨l.length,f,iLI l⟩ = some (IV (chk n r last))
 | _,0,_,_,_,h,_,_,_=>by omega
 | [], w + 1, i, last, hd, _, hi, _, _ => by
  show b26_1 (puN (k + 1)) L (l26_1 (puN (k + 1)) L w) (Int.ofNat i) n ⟨l.length,f,iLI l⟩ = _
  have h1:l.length≤i:=List.drop_eq_nil_iff.1 hd
  unfold b26_1
  show bb (ilt (Int.ofNat i) (Int.ofNat l.length)) _ _ = _
  rw [ilt_nat,show Nat.blt i l.length = false from by rw [blt_eq];simp;omega];rfl
 | x :: r, w + 1, i, last, hd, hw, hi, hi0, hip => by
  show b26_1 (puN (k + 1)) L (l26_1 (puN (k + 1)) L w) (Int.ofNat i) n ⟨l.length,f,iLI l⟩ = _
  obtain ⟨hd2,hi2,_⟩:=dropI_next hd
  have hr:(x :: r).length = r.length + 1:=rfl
  have hlt:Nat.blt i l.length = true:=by rw [blt_eq];simp;omega
  have hx:l[i]? = some x:=by
   have:=congrArg List.head? hd
   rw [List.head?_drop] at this;exact this
  have ih:=check26_loop k hn hn2 hl f r w (i + 1) x hd2 (by omega) (by omega) (by omega) (fun _=>by simpa using hx)
  have e1:wrapF .i64 (Int.sub n (1:Int)) = n - 1:=wrapI _ (by show _≤n - 1;omega) (by show n - 1≤_;omega)
  have hchk:chk n (x :: r) last = (bif ilt x 0 then 2 else bif nt (ilt x n) then 2 else bif nt (ilt last x) then 7 else chk n r x):=rfl
  rw [hchk]
  unfold b26_1
  show bb (ilt (Int.ofNat i) (Int.ofNat l.length)) (oo (toN (Int.ofNat i)) none _) _ = _
  rw [ilt_nat,hlt,bb_true,show toN (Int.ofNat i) = some i from rfl,oo_some]
  show bb (an (Nat.blt i l.length) true) (oo (nthL (iLI l) (i * 1)) none _) none = _
  rw [hlt,show an true true = true from rfl,bb_true,iLI_get hd,oo_some,show ∀ z,toI .i64 (IV z) = some z from fun _=>rfl,oo_some,e1,pu_is,oo_some]
  show bb (nt (decide (0≤x∧x≤n - 1))) (some (IV 2)) (bb (ilt (0:Int) (Int.ofNat i)) (bb true (oo (some (IV x)) none fun v=>oo (toI .i64 v) none fun x3347=>oo (toN (wrapF .i64 (Int.sub (Int.ofNat i) (1:Int)))) none fun k3349=>bb (an (Nat.blt k3349 l.length) true) (oo (nthL (iLI l) (k3349 * 1)) none fun v3352=>oo (toI .i64 v3352) none fun x3354=>m26_2 (puN (k + 1)) L (l26_1 (puN (k + 1)) L w) (Int.ofNat i) (nt (ilt x3354 x3347)) n ⟨l.length,f,iLI l⟩) none) none) (m26_2 (puN (k + 1)) L (l26_1 (puN (k + 1)) L w) (Int.ofNat i) false n ⟨l.length,f,iLI l⟩)) = _
  have hm2:∀ b,m26_2 (puN (k + 1)) L (l26_1 (puN (k + 1)) L w) (Int.ofNat i) b n ⟨l.length,f,iLI l⟩ = some (IV (bif b then 7 else chk n r x)):=fun b=>by
   unfold m26_2
   rw [wrapS i (by omega),ih]
   cases b <;> rfl
  rw [ilt_eq x 0,ilt_eq x n,hm2]
  by_cases h1:x < 0
  ·rw [decide_eq_false (show ¬ (0≤x∧x≤n - 1) by omega),decide_eq_true h1];rfl
  ·rw [decide_eq_false h1]
   by_cases h2:x < n
   ·rw [decide_eq_true h2, decide_eq_true (show 0 ≤ x ∧ x ≤ n - 1 by omega)]
    show bb (ilt (0:Int) (Int.ofNat i)) _ (some (IV (chk n r x))) = some (IV (bif nt (ilt last x) then 7 else chk n r x))
    rw [show (0:Int) = Int.ofNat 0 from rfl,ilt_nat,blt_eq]
    by_cases h3:0 < i
    ·have hprev : nthL (iLI l) ((i - 1) * 1) = some (IV last) := by
      rw [nthL_eq,Nat.mul_one];unfold iLI
      rw [List.getElem?_map,hip h3];rfl
     have e2:wrapF .i64 (Int.sub (Int.ofNat i) (1:Int)) = Int.ofNat (i - 1):=by
      show wrapF .i64 ((i:Int) - 1) = ((i - 1:Nat):Int)
      rw [wrapI _ (by omega) (by omega)];omega
     rw [decide_eq_true h3,bb_true,bb_true,oo_some,show ∀ z,toI .i64 (IV z) = some z from fun _=>rfl,oo_some,e2,show ∀ j,toN (Int.ofNat j) = some j from fun _=>rfl,oo_some,show Nat.blt (i - 1) l.length = true from by rw [blt_eq];simp;omega,show an true true = true from rfl,bb_true,hprev,oo_some,show ∀ z,toI .i64 (IV z) = some z from fun _=>rfl,oo_some,hm2]
    ·have : last = -1 := hi0 (by omega)
     rw [decide_eq_false h3,bb_false,ilt_eq last x,decide_eq_true (show last < x by omega)];rfl
   ·rw [decide_eq_false h2,decide_eq_false (show ¬ (0≤x∧x≤n - 1) by omega)];rfl
theorem p26 (k:Nat) (args:List Value):puN (k + 1) 26 args = m26 (puN k) L args:=by kernel_rfl
theorem pu_check26 (k f:Nat) (n:Int) {l:List Int} (hl:l.length < 900000):puN (k + 2) 26 [.agg ⟨[IV n,slI f l]⟩] = some (IV (checkI n l)):=by
 rw [p26]
 show oo (puN (k + 1) 73 [IV n,IV 1,IV 21]) none _ = _
 rw [pu_is,oo_some]
 show bb (nt (decide (1≤n∧n≤21))) (some (IV 1)) (bb (ilt (6:Int) (Int.ofNat l.length)) (some (IV 3)) (l26_1 (puN (k + 1)) L L (0:Int) n ⟨l.length,f,iLI l⟩)) = _
 unfold checkI
 rw [ilt_eq n 1,ilt_eq 21 n,show ilt (6:Int) (Int.ofNat l.length) = Nat.blt 6 l.length from ilt_nat 6 _]
 by_cases h1:n < 1
 ·rw [decide_eq_true h1,decide_eq_false (show ¬ (1≤n∧n≤21) by omega)];rfl
 ·rw [decide_eq_false h1]
  by_cases h2:21 < n
  ·rw [decide_eq_true h2,decide_eq_false (show ¬ (1≤n∧n≤21) by omega)];rfl
  ·rw [decide_eq_false h2, decide_eq_true (show 1 ≤ n ∧ n ≤ 21 by omega)]
   have h:=check26_loop k (n:=n) (by omega) (by omega) hl f l L 0 (-1) List.drop_zero (by show _ < 1000000;omega) (by omega) (fun _=>rfl) (fun h=>by omega)
   have h:l26_1 (puN (k + 1)) L L (0:Int) n ⟨l.length,f,iLI l⟩ = some (IV (chk n l (-1))):=h
   rw [h]
   cases Nat.blt 6 l.length <;> rfl
theorem pu_check26_ok (k f:Nat) {n:Nat} {l:List Nat} (h:Good n l):puN (k + 2) 26 [seaF n f l] = some (IV 0):=by
 have hc:=pu_check26 k f (Int.ofNat n) (l:=l.map Int.ofNat) (by have:=h.few;simp;omega)
 rw [checkI_ok h.pos h.le h.few h.up h.lt] at hc
 have e:seaF n f l = .agg ⟨[IV (Int.ofNat n),slI f (l.map Int.ofNat)]⟩:=by unfold seaF slI;rw [vL_iLI,List.length_map]
 rw [e];exact hc
end Go.RgP
set_option maxRecDepth 100000
set_option maxHeartbeats 2000000
namespace Go.RgP
open Go Go.Sp
def lexB : List Nat → List Nat → Bool
 | [],[]=>false
 | [],_ :: _=>true
 | _ :: _,[]=>false
 | x :: a,y :: b=>bif Nat.beq x y then lexB a b else Nat.blt x y
theorem lexB_cons (x y:Nat) (a b:List Nat):lexB (x :: a) (y :: b) = (bif Nat.beq x y then lexB a b else Nat.blt x y):=rfl
theorem lexB_irr : ∀ a : List Nat, lexB a a = false
 | []=>rfl
 | x :: a=>by rw [lexB_cons,Nat.beq_refl];exact lexB_irr a
theorem lexB_trans : ∀ {a b c : List Nat}, lexB a b = true → lexB b c = true → lexB a c = true
 | [],[],_,h,_=>by cases h
 | [],_ :: _,[],_,h=>by cases h
 | [],_ :: _,_ :: _,_,_=>rfl
 | _ :: _,[],_,h,_=>by cases h
 | _ :: _,_ :: _,[],_,h=>by cases h
 | x :: a, y :: b, z :: c, h, h' => by
  rw [lexB_cons,beq_dec,blt_eq] at *
  by_cases h1:x = y
  ·by_cases h2 : y = z
   ·rw [decide_eq_true h1] at h; rw [decide_eq_true h2] at h'
    rw [decide_eq_true (h1.trans h2)]
    exact lexB_trans (show lexB a b = true from h) (show lexB b c = true from h')
   ·rw [decide_eq_false h2] at h'
    rw [decide_eq_false (by omega)]
    have:y < z:=of_decide_eq_true h'
    exact decide_eq_true (show x < z by omega)
  ·rw [decide_eq_false h1] at h
   have h3:x < y:=of_decide_eq_true h
   by_cases h2:y = z
   ·rw [decide_eq_false (show ¬ x = z by omega)]
    exact decide_eq_true (show x < z by omega)
   ·rw [decide_eq_false h2] at h'
    have h4:y < z:=of_decide_eq_true h'
    rw [decide_eq_false (show ¬ x = z by omega)]
    exact decide_eq_true (show x < z by omega)
theorem lexB_tot : ∀ {a b : List Nat}, lexB a b = false → lexB b a = false → a = b
 | [],[],_,_=>rfl
 | [],_ :: _,h,_=>by cases h
 | _ :: _,[],_,h=>by cases h
 | x :: a, y :: b, h, h' => by
  rw [lexB_cons,beq_dec,blt_eq] at *
  by_cases h1:x = y
  ·rw [decide_eq_true h1] at h; rw [decide_eq_true h1.symm] at h'
   rw [h1,lexB_tot (show lexB a b = false from h) (show lexB b a = false from h')]
  ·rw [decide_eq_false h1] at h; rw [decide_eq_false (Ne.symm h1)] at h'
   have h2:¬ x < y:=of_decide_eq_false h
   have h3:¬ y < x:=of_decide_eq_false h'
   omega
def minL (b:List Nat) (cs:List (List Nat)):List Nat:=cs.foldl (fun b c=>bif lexB c b then c else b) b
def LeastIn (S:List Nat→Prop) (x:List Nat):Prop:=S x∧∀ c,S c→lexB c x = false
theorem LeastIn.uniq {S:List Nat→Prop} {x y:List Nat} (h:LeastIn S x) (h':LeastIn S y):x = y:=lexB_tot (h'.2 x h.1) (h.2 y h'.1)
theorem minL_least : ∀ (cs : List (List Nat)) (b : List Nat), LeastIn (fun c => c = b ∨ c ∈ cs) (minL b cs)
 | [], b => ⟨.inl rfl, fun c h => by
  rcases h with rfl | h
  ·exact lexB_irr _
  ·cases h⟩
 | c :: cs, b => by
  have h:=minL_least cs (bif lexB c b then c else b)
  show LeastIn _ (minL (bif lexB c b then c else b) cs)
  have hall:∀ x,x = b∨x ∈ c :: cs→lexB x (minL (bif lexB c b then c else b) cs) = false:=by
   intro x hx
   have hb:lexB (bif lexB c b then c else b) (minL (bif lexB c b then c else b) cs) = false:=h.2 _ (.inl rfl)
   have key:∀ y,lexB (bif lexB c b then c else b) y = true∨y = (bif lexB c b then c else b)→lexB y (minL (bif lexB c b then c else b) cs) = false:=by
    intro y hy
    rcases hy with hy | rfl
    ·cases hlt : lexB y (minL (bif lexB c b then c else b) cs) with
     | false=>rfl
     | true=>have:=lexB_trans hy hlt;rw [hb] at this;cases this
    ·exact hb
   rcases hx with rfl | hx
   ·cases hc : lexB c x with
    | true=>exact hc ▸ key x (by rw [hc];exact .inl hc)
    | false=>exact hc ▸ key x (by rw [hc];exact .inr rfl)
   ·rcases List.mem_cons.1 hx with rfl | hx
    ·cases hc : lexB x b with
     | true=>exact hc ▸ key x (by rw [hc];exact .inr rfl)
     | false =>
      refine hc ▸ key x ?_
      rw [hc]
      cases hb2:lexB b x with
      | true=>exact .inl hb2
      | false=>exact .inr (lexB_tot hc hb2)
    ·exact h.2 x (.inr hx)
  refine ⟨?_,hall⟩
  rcases h.1 with h1 | h1
  ·rw [h1]
   cases lexB c b with
   | true=>exact .inr List.mem_cons_self
   | false=>exact .inl rfl
  ·exact .inr (List.mem_cons_of_mem _ h1)
def turnsOf (n s:Nat) (c:List Nat):Prop:=∃ b,b < n∧c = marksN n (turnN n s b)
noncomputable def minT (n s:Nat):List Nat:=minL (marksN n (turnN n s 0)) ((List.range (n - 1)).map fun i=>marksN n (turnN n s (i + 1)))
theorem minT_least {n s:Nat} (hn:0 < n):LeastIn (turnsOf n s) (minT n s):=by
 have h:=minL_least ((List.range (n - 1)).map fun i=>marksN n (turnN n s (i + 1))) (marksN n (turnN n s 0))
 have e:∀ c,turnsOf n s c↔(c = marksN n (turnN n s 0)∨c ∈ (List.range (n - 1)).map fun i=>marksN n (turnN n s (i + 1))):=fun c=>by
  constructor
  ·rintro ⟨b, hb, rfl⟩
   cases b with
   | zero=>exact .inl rfl
   | succ b=>exact .inr (List.mem_map.2 ⟨b,List.mem_range.2 (by omega),rfl⟩)
  ·rintro (rfl | h)
   ·exact ⟨0,hn,rfl⟩
   ·obtain ⟨i, hi, rfl⟩ := List.mem_map.1 h
    exact ⟨i + 1,by have:=List.mem_range.1 hi;omega,rfl⟩
 exact ⟨(e _).2 h.1,fun c hc=>h.2 c ((e c).1 hc)⟩
theorem turn_zero {n s:Nat} (hn0:0 < n) (hn:n≤31) (hs:s < 2 ^ n):turnN n s 0 = s:=by
 refine set_ext turn_lt hs fun q hq=>?_
 rw [turn_bit hn hs hn0,decide_eq_true hq,Bool.true_and,Nat.sub_zero,Nat.add_mod_right,Nat.mod_eq_of_lt hq]
theorem moved_turn {n:Nat} (hn0:0 < n) (hn:n≤31) (l:List Nat) (m b:Int):setOf (fun p=>plc n ((p:Int) * m + b)) l 0 = turnN n (setOf (fun p=>plc n ((p:Int) * m)) l 0) (plc n b):=by
 have hb:=plc_lt hn0 b
 have h1:setOf (fun p=>plc n ((p:Int) * m)) l 0 < 2 ^ n:=setOf_lt _ (Nat.two_pow_pos n) fun p _=>plc_lt hn0 _
 refine set_ext (setOf_lt _ (Nat.two_pow_pos n) fun p _=>plc_lt hn0 _) turn_lt fun q hq=>?_
 rw [setOf_bit,Nat.zero_testBit,Bool.false_or,turn_bit hn h1 hb,decide_eq_true hq,Bool.true_and,setOf_bit,Nat.zero_testBit,Bool.false_or]
 refine List.any_congr rfl fun p=>?_
 refine decide_eq_decide.2 ?_
 rw [plc_add hn0]
 have hp:=plc_lt hn0 ((p:Int) * m)
 generalize plc n ((p:Int) * m) = a at *
 generalize plc n b = d at *
 by_cases h0:d = 0
 ·subst h0
  rw [Nat.add_zero,Nat.sub_zero,Nat.add_mod_right,Nat.mod_eq_of_lt hp,Nat.mod_eq_of_lt hq]
 ·constructor
  ·rintro rfl;rw [add_back hp (by omega) hb]
  ·rintro rfl;rw [back_add hq (by omega) hb]
noncomputable def fstep (n s best p:Nat):Nat:=bif !best.testBit 0 || lexB (marksN n (turnN n s (plc n (-(p:Int))))) (marksN n best) then turnN n s (plc n (-(p:Int))) else best
noncomputable def firstN (n s:Nat):Nat:=(marksN n s).foldl (fstep n s) s
theorem neg_plc {n p:Nat} (hn:0 < n) (hp:p < n):plc n (-(p:Int)) = (n - p) % n:=by
 have e:(-(p:Int)) = (((n - p:Nat)):Int) + (n:Int) * (-1):=by omega
 rw [←plc_nat (n:=n) (n - p),e]
 unfold plc
 rw [Int.add_mul_emod_self_left]
theorem turn_neg_zero {n s p:Nat} (hn0:0 < n) (hn:n≤31) (hs:s < 2 ^ n) (hp:p < n):(turnN n s (plc n (-(p:Int)))).testBit 0 = s.testBit p:=by
 rw [turn_bit hn hs (plc_lt hn0 _),decide_eq_true hn0,Bool.true_and,neg_plc hn0 hp]
 congr 1
 by_cases h:p = 0
 ·subst h;rw [Nat.sub_zero,Nat.mod_self,Nat.sub_zero,Nat.zero_add,Nat.mod_self]
 ·rw [Nat.mod_eq_of_lt (show n - p < n by omega),Nat.zero_add,Nat.mod_eq_of_lt (by omega)];omega
theorem fold_inv {n s : Nat} (hn0 : 0 < n) (hn : n ≤ 31) (hs : s < 2 ^ n) : ∀ (r : List Nat) (best : Nat) (S : List Nat), (∀ p ∈ r, p < n ∧ s.testBit p = true) → (∃ b, b < n ∧ best = turnN n s b) → best.testBit 0 = true → (∀ p ∈ S, lexB (marksN n (turnN n s (plc n (-(p : Int))))) (marksN n best) = false) →
 (∃ b,b < n∧r.foldl (fstep n s) best = turnN n s b)∧(r.foldl (fstep n s) best).testBit 0 = true∧∀ p,p ∈ S∨p ∈ r→lexB (marksN n (turnN n s (plc n (-(p:Int))))) (marksN n (r.foldl (fstep n s) best)) = false
 | [],best,S,_,h1,h2,h3=>⟨h1,h2,fun p hp=>h3 p (hp.resolve_right (by simp))⟩
 | p :: r, best, S, hr, h1, h2, h3 => by
  obtain ⟨hp,hps⟩:=hr p List.mem_cons_self
  have e:fstep n s best p = bif lexB (marksN n (turnN n s (plc n (-(p:Int))))) (marksN n best) then turnN n s (plc n (-(p:Int))) else best:=by unfold fstep;rw [h2];rfl
  have key:(∃ b,b < n∧fstep n s best p = turnN n s b)∧(fstep n s best p).testBit 0 = true∧∀ x ∈ p :: S,lexB (marksN n (turnN n s (plc n (-(x:Int))))) (marksN n (fstep n s best p)) = false:=by
   rw [e]
   cases hc:lexB (marksN n (turnN n s (plc n (-(p:Int))))) (marksN n best) with
   | true =>
    refine ⟨⟨_,plc_lt hn0 _,rfl⟩,by show (turnN n s _).testBit 0 = true;rw [turn_neg_zero hn0 hn hs hp];exact hps,fun x hx=>?_⟩
    rcases List.mem_cons.1 hx with rfl | hx
    ·exact lexB_irr _
    ·show lexB _ (marksN n (turnN n s (plc n (-(p : Int))))) = false
     cases hq:lexB (marksN n (turnN n s (plc n (-(x:Int))))) (marksN n (turnN n s (plc n (-(p:Int))))) with
     | false=>rfl
     | true=>have:=lexB_trans hq hc;rw [h3 x hx] at this;cases this
   | false =>
    refine ⟨h1,h2,fun x hx=>?_⟩
    rcases List.mem_cons.1 hx with rfl | hx
    ·exact hc
    ·exact h3 x hx
  obtain ⟨k1,k2,k3⟩:=key
  obtain ⟨a1,a2,a3⟩:=fold_inv hn0 hn hs r (fstep n s best p) (p :: S) (fun x hx=>hr x (List.mem_cons_of_mem _ hx)) k1 k2 k3
  refine ⟨a1,a2,fun x hx=>a3 x ?_⟩
  rcases hx with hx | hx
  ·exact .inl (List.mem_cons_of_mem _ hx)
  ·rcases List.mem_cons.1 hx with rfl | hx
   ·exact .inl List.mem_cons_self
   ·exact .inr hx
theorem head_zero {n s:Nat} (hs:s < 4294967296) (hn:0 < n) (h0:s.testBit 0 = true):∃ r,marksN n s = 0 :: r:=by
 have hm:0 ∈ marksN n s:=(mem_marks hs).2 ⟨hn,h0⟩
 have hp:=marks_sorted (n:=n) hs
 cases hl:marksN n s with
 | nil=>rw [hl] at hm;cases hm
 | cons x r =>
  rw [hl] at hm hp
  rcases List.mem_cons.1 hm with rfl | h
  ·exact ⟨r,rfl⟩
  ·have:=(List.pairwise_cons.1 hp).1 0 h;omega
theorem first_min {n s:Nat} (hn0:0 < n) (hn:n≤21) (hs:s < 2 ^ n):marksN n (firstN n s) = minT n s∧firstN n s < 2 ^ n:=by
 have hs32:=lt32 (n:=n) (by omega) hs
 have hmem:∀ p ∈ marksN n s,p < n∧s.testBit p = true:=fun p hp=>(mem_marks hs32).1 hp
 cases hl:marksN n s with
 | nil =>
  have hz:s = 0:=by
   have:=bitsOf_marks (n:=n) (by omega) hs
   rw [hl] at this;exact this.symm
  have e:firstN n s = s:=by unfold firstN;rw [hl];rfl
  rw [e]
  refine ⟨?_,hs⟩
  refine LeastIn.uniq (S:=turnsOf n s) ⟨⟨0,hn0,by rw [turn_zero hn0 (by omega) hs]⟩,?_⟩ (minT_least hn0)
  rintro c ⟨b,hb,rfl⟩
  have:turnN n s b = s:=by
   refine set_ext turn_lt hs fun q hq=>?_
   rw [turn_bit (by omega) hs hb,hz];simp
  rw [this];exact lexB_irr _
 | cons p r =>
  have hp:=hmem p (by rw [hl];exact List.mem_cons_self)
  have hstep:fstep n s s p = (bif !s.testBit 0 || lexB (marksN n (turnN n s (plc n (-(p:Int))))) (marksN n s) then turnN n s (plc n (-(p:Int))) else s):=rfl
  have k:(∃ b,b < n∧fstep n s s p = turnN n s b)∧(fstep n s s p).testBit 0 = true∧∀ x ∈ [p],lexB (marksN n (turnN n s (plc n (-(x:Int))))) (marksN n (fstep n s s p)) = false:=by
   rw [hstep]
   cases hc:(!s.testBit 0 || lexB (marksN n (turnN n s (plc n (-(p:Int))))) (marksN n s)) with
   | true =>
    refine ⟨⟨_,plc_lt hn0 _,rfl⟩,by show (turnN n s _).testBit 0 = true;rw [turn_neg_zero hn0 (by omega) hs hp.1];exact hp.2,fun x hx=>?_⟩
    have:x = p:=by simpa using hx
    subst this;exact lexB_irr _
   | false =>
    rw [Bool.or_eq_false_iff] at hc
    refine ⟨⟨0,hn0,(turn_zero hn0 (by omega) hs).symm⟩,by simpa using hc.1,fun x hx=>?_⟩
    have:x = p:=by simpa using hx
    subst this;exact hc.2
  obtain ⟨k1,k2,k3⟩:=k
  obtain ⟨⟨b,hb,hbe⟩,a2,a3⟩:=fold_inv hn0 (by omega) hs r (fstep n s s p) [p] (fun x hx=>hmem x (by rw [hl];exact List.mem_cons_of_mem _ hx)) k1 k2 k3
  have e:firstN n s = r.foldl (fstep n s) (fstep n s s p):=by unfold firstN;rw [hl];rfl
  rw [←e] at hbe a2 a3
  have hlt:firstN n s < 2 ^ n:=by rw [hbe];exact turn_lt
  refine ⟨LeastIn.uniq (S:=turnsOf n s) ⟨⟨b,hb,by rw [hbe]⟩,?_⟩ (minT_least hn0),hlt⟩
  rintro c ⟨d,hd,rfl⟩
  have ht32:=lt32 (n:=n) (s:=turnN n s d) (by omega) turn_lt
  cases h0:(turnN n s d).testBit 0 with
  | true =>
   rw [turn_bit (by omega) hs hd,decide_eq_true hn0,Bool.true_and,Nat.zero_add] at h0
   have hx:(n - d) % n < n:=Nat.mod_lt _ hn0
   have hin:(n - d) % n ∈ marksN n s:=(mem_marks hs32).2 ⟨hx,h0⟩
   have hback:plc n (-(((n - d) % n:Nat):Int)) = d:=by
    rw [neg_plc hn0 hx]
    by_cases hd0:d = 0
    ·subst hd0;rw [Nat.sub_zero,Nat.mod_self,Nat.sub_zero,Nat.mod_self]
    ·rw [Nat.mod_eq_of_lt (show n - d < n by omega),Nat.mod_eq_of_lt (by omega)];omega
   have := a3 ((n - d) % n) (by
    rw [hl] at hin
    rcases List.mem_cons.1 hin with h | h
    ·exact .inl (by rw [h];exact List.mem_cons_self)
    ·exact .inr h)
   rw [hback] at this;exact this
  | false =>
   obtain ⟨r0,hr0⟩:=head_zero (lt32 (n:=n) (by omega) hlt) hn0 a2
   rw [hr0]
   have hm:(p + d) % n ∈ marksN n (turnN n s d):=by
    have hlt2:(p + d) % n < n:=Nat.mod_lt _ hn0
    refine (mem_marks ht32).2 ⟨hlt2,?_⟩
    rw [turn_bit (by omega) hs hd,decide_eq_true hlt2,Bool.true_and]
    by_cases hd0:d = 0
    ·subst hd0;rw [Nat.add_zero,Nat.sub_zero,Nat.mod_eq_of_lt hp.1,Nat.add_mod_right,Nat.mod_eq_of_lt hp.1];exact hp.2
    ·rw [add_back hp.1 (by omega) hd];exact hp.2
   cases hc:marksN n (turnN n s d) with
   | nil=>rw [hc] at hm;cases hm
   | cons y r1 =>
    have hy:y ≠ 0:=fun e=>by
     have:y ∈ marksN n (turnN n s d):=by rw [hc];exact List.mem_cons_self
     have:=((mem_marks ht32).1 this).2
     rw [e,h0] at this;cases this
    rw [lexB_cons,beq_ne hy,blt_eq]
    show decide (y < 0) = false
    exact decide_eq_false (by omega)
def reachN (n s o:Nat):Option Nat:=(List.range n).find? fun b=>Nat.beq (turnN n s b) o
end Go.RgP
set_option maxRecDepth 100000
set_option maxHeartbeats 4000000
namespace Go.RgP
open Go Go.Sp Go.RgEM
theorem before_loop (pu : PureF) (L : Nat) {a b : List Nat} (ha : a.length < 900000) (f1 f2 : Nat) : ∀ (r r' : List Nat) (w i : Nat), a.drop i = r → b.drop i = r' → r.length < w → i ≤ a.length → i ≤ b.length →
 l97_1 pu L w ⟨a.length,f1,vL a⟩ ⟨b.length,f2,vL b⟩ (Int.ofNat i) = some (.bool (lexB r r'))
 | _,_,0,_,_,_,h,_,_=>by omega
 | [], r', w + 1, i, hd, hd', _, hi, hi' => by
  show b97_1 pu L (l97_1 pu L w) ⟨a.length,f1,vL a⟩ ⟨b.length,f2,vL b⟩ (Int.ofNat i) = _
  have h1:a.length≤i:=List.drop_eq_nil_iff.1 hd
  unfold b97_1
  show bb (ilt (Int.ofNat i) (Int.ofNat a.length)) _ (some (Value.bool (ilt (Int.ofNat a.length) (Int.ofNat b.length)))) = _
  rw [ilt_nat,show Nat.blt i a.length = false from by rw [blt_eq];simp;omega,bb_false,ilt_nat,blt_eq]
  cases r' with
  | nil =>
   have h2:b.length≤i:=List.drop_eq_nil_iff.1 hd'
   rw [decide_eq_false (by omega)];rfl
  | cons y r' =>
   have:=(drop_next hd').2.1
   rw [decide_eq_true (by omega)];rfl
 | x :: r, r', w + 1, i, hd, hd', hw, hi, hi' => by
  show b97_1 pu L (l97_1 pu L w) ⟨a.length,f1,vL a⟩ ⟨b.length,f2,vL b⟩ (Int.ofNat i) = _
  obtain ⟨hd2,hi2,_⟩:=drop_next hd
  have hr:(x :: r).length = r.length + 1:=rfl
  have hlt:Nat.blt i a.length = true:=by rw [blt_eq];simp;omega
  unfold b97_1
  show bb (ilt (Int.ofNat i) (Int.ofNat a.length)) (m97_2 pu L (l97_1 pu L w) ⟨a.length,f1,vL a⟩ ⟨b.length,f2,vL b⟩ (Int.ofNat i) (ilt (Int.ofNat i) (Int.ofNat b.length))) _ = _
  rw [ilt_nat,ilt_nat,hlt,bb_true]
  unfold m97_2
  cases r' with
  | nil =>
   have h2:b.length≤i:=List.drop_eq_nil_iff.1 hd'
   rw [show Nat.blt i b.length = false from by rw [blt_eq];simp;omega,bb_false]
   show some (Value.bool (ilt (Int.ofNat a.length) (Int.ofNat b.length))) = _
   rw [ilt_nat,blt_eq,decide_eq_false (by omega)];rfl
  | cons y r' =>
   obtain ⟨hd3,hi3,_⟩:=drop_next hd'
   have hlt2:Nat.blt i b.length = true:=by rw [blt_eq];simp;omega
   have ih:=before_loop pu L ha f1 f2 r r' w (i + 1) hd2 hd3 (by omega) (by omega) (by omega)
   rw [hlt2,bb_true,show toN (Int.ofNat i) = some i from rfl,oo_some]
   show bb (an (Nat.blt i a.length) true) (oo (nthL (vL a) (i * 1)) none fun v=>oo (toI .i64 v) none fun x1=>bb (an (Nat.blt i b.length) true) (oo (nthL (vL b) (i * 1)) none fun v=>oo (toI .i64 v) none fun x2=>bb (nt (ieq x1 x2)) (bb (an (Nat.blt i a.length) true) (oo (nthL (vL a) (i * 1)) none fun v=>oo (toI .i64 v) none fun x3=>bb (an (Nat.blt i b.length) true) (oo (nthL (vL b) (i * 1)) none fun v=>oo (toI .i64 v) none fun x4=>some (.bool (ilt x3 x4))) none) none) (l97_1 pu L w ⟨a.length,f1,vL a⟩ ⟨b.length,f2,vL b⟩ (wrapF .i64 (Int.add (Int.ofNat i) (1:Int))))) none) none = _
   rw [hlt,hlt2,show an true true = true from rfl,bb_true,vL_get hd,vL_get hd',oo_some,show ∀ z,toI .i64 (IV z) = some z from fun _=>rfl,oo_some,bb_true,oo_some,show ∀ z,toI .i64 (IV z) = some z from fun _=>rfl,oo_some,wrapS i (by omega),ih,ieq_nat,bb_true,oo_some]
   show bb (nt (Nat.beq x y)) (some (Value.bool (ilt (Int.ofNat x) (Int.ofNat y)))) (some (Value.bool (lexB r r'))) = _
   rw [ilt_nat,lexB_cons]
   cases Nat.beq x y <;> rfl
theorem p97 (k:Nat) (args:List Value):puN (k + 1) 97 args = m97 (puN k) L args:=by kernel_rfl
theorem pu_before (k f1 f2:Nat) {a b:List Nat} (ha:a.length < 900000):puN (k + 1) 97 [Sl.v 1 ⟨a.length,f1,vL a⟩,Sl.v 1 ⟨b.length,f2,vL b⟩] = some (.bool (lexB a b)):=by
 rw [p97]
 exact before_loop (puN k) L ha f1 f2 a b L 0 List.drop_zero List.drop_zero (by show _ < 1000000;omega) (by omega) (by omega)
theorem p72 (k:Nat) (args:List Value):puN (k + 1) 72 args = m72 (puN k) L args:=by kernel_rfl
theorem pu_same72 (k f1 f2:Nat) {a b:List Nat} (ha:a.length < 900000) (hb:b.length < 900000):puN (k + 2) 72 [Sl.v 1 ⟨a.length,f1,vL a⟩,Sl.v 1 ⟨b.length,f2,vL b⟩] = some (.bool (decide (a = b))):=by
 rw [p72]
 show m72_ (puN (k + 1)) L ⟨a.length,f1,vL a⟩ ⟨b.length,f2,vL b⟩ = _
 unfold m72_ m72_0
 rw [pu_before k f1 f2 ha,oo_some,show ∀ b,vBool (Value.bool b) = some b from fun _=>rfl,oo_some,pu_before k f2 f1 hb,oo_some,show ∀ b,vBool (Value.bool b) = some b from fun _=>rfl,oo_some]
 by_cases h:a = b
 ·subst h;rw [lexB_irr,decide_eq_true rfl];rfl
 ·rw [decide_eq_false h]
  cases h1:lexB a b with
  | true=>rfl
  | false =>
   cases h2:lexB b a with
   | true=>rfl
   | false=>exact absurd (lexB_tot h1 h2) h
def hits (f:Nat→Nat) (r:List Nat) (p:Nat):List Nat:=(r.filter fun x=>Nat.beq (f x) p).map fun _=>p
def movF (f : Nat → Nat) (l : List Nat) : Nat → Nat → List Nat
 | 0,_=>[]
 | k + 1,p=>hits f l p ++ movF f l k (p + 1)
theorem hits_cons (f:Nat→Nat) (x:Nat) (r:List Nat) (p:Nat):hits f (x :: r) p = (bif Nat.beq (f x) p then p :: hits f r p else hits f r p):=by
 unfold hits
 rw [List.filter_cons]
 cases Nat.beq (f x) p <;> rfl
theorem moved_inner (k : Nat) {n : Nat} {l : List Nat} (h : Good n l) (fl : Nat) {m b : Int} (hm : -100 ≤ m) (hm2 : m ≤ 100) (hb : -1000 ≤ b) (hb2 : b ≤ 1000) (ih0 : Int → Int → Int → Int → Sl → Int → Int → Nat → Nat → List Value → Option Value) (p : Nat) (hp : p < n) (z1 z2 : Int) :
 ∀ (r:List Nat) (w i c:Nat) (q:List Nat),l.drop i = r→r.length < w→i≤l.length→q.length + r.length≤1000→c / 2 = q.length→c % 2 = 0 →
 ∃ c', c' / 2 = (q ++ hits (fun x => plc n ((x : Int) * m + b)) r p).length ∧ c' % 2 = 0 ∧ l67_3 (puN (k + 1)) L ih0 w m b (Int.ofNat p) (Int.ofNat i) (Int.ofNat n) ⟨l.length, fl, vL l⟩ z1 z2 q.length c (vL q) =
  ih0 m b (Int.ofNat (p + 1)) (Int.ofNat n) ⟨l.length,fl,vL l⟩ z1 z2 (q ++ hits (fun x=>plc n ((x:Int) * m + b)) r p).length c' (vL (q ++ hits (fun x=>plc n ((x:Int) * m + b)) r p))
 | _,0,_,_,_,_,hw,_,_,_,_=>by omega
 | [], w + 1, i, c, q, hd, _, hi, _, hc, hc2 => by
  have h1:l.length≤i:=List.drop_eq_nil_iff.1 hd
  have hn:=h.le
  refine ⟨c,by rw [hc];simp [hits],hc2,?_⟩
  show b67_3 (puN (k + 1)) L ih0 (l67_3 (puN (k + 1)) L ih0 w) m b (Int.ofNat p) (Int.ofNat i) (Int.ofNat n) ⟨l.length,fl,vL l⟩ z1 z2 q.length c (vL q) = _
  unfold b67_3
  rw [vL_closed,bb_true]
  show bb (ilt (Int.ofNat i) (Int.ofNat l.length)) _ _ = _
  rw [ilt_nat,show Nat.blt i l.length = false from by rw [blt_eq];simp;omega,bb_false]
  unfold m67_2
  rw [vL_closed,bb_true,wrapS p (by omega)]
  show _ = ih0 m b (Int.ofNat (p + 1)) (Int.ofNat n) ⟨l.length,fl,vL l⟩ z1 z2 (q ++ []).length c (vL (q ++ []))
  rw [List.append_nil]
 | x :: r, w + 1, i, c, q, hd, hw, hi, hq, hc, hc2 => by
  obtain ⟨hd2,hi2,hx⟩:=drop_next hd
  have hr:(x :: r).length = r.length + 1:=rfl
  have hlt:Nat.blt i l.length = true:=by rw [blt_eq];simp;omega
  have hn:=h.le
  have hxn:=h.lt x hx
  have hfew:=h.few
  have b1:-3200≤(x:Int) * m:=by
   have:(x:Int) * (-100)≤(x:Int) * m:=Int.mul_le_mul_of_nonneg_left hm (by omega)
   omega
  have b2:(x:Int) * m≤3200:=by
   have:(x:Int) * m≤(x:Int) * 100:=Int.mul_le_mul_of_nonneg_left hm2 (by omega)
   omega
  have e1:wrapF .i64 (Int.mul (Int.ofNat x) m) = (x:Int) * m:=wrapI _ (by show _≤(x:Int) * m;omega) (by show (x:Int) * m≤_;omega)
  have e2:wrapF .i64 (Int.add ((x:Int) * m) b) = (x:Int) * m + b:=wrapI _ (by show _≤(x:Int) * m + b;omega) (by show (x:Int) * m + b≤_;omega)
  have eq : l67_3 (puN (k + 1)) L ih0 (w + 1) m b (Int.ofNat p) (Int.ofNat i) (Int.ofNat n) ⟨l.length, fl, vL l⟩ z1 z2 q.length c (vL q) =
   bb (Nat.beq (plc n ((x:Int) * m + b)) p) (l67_3 (puN (k + 1)) L ih0 w m b (Int.ofNat p) (Int.ofNat (i + 1)) (Int.ofNat n) ⟨l.length,fl,vL l⟩ z1 z2 (q.length + 1) (2 * (q.length + 1) + bb false 1 0) (vL (q ++ [p]))) (l67_3 (puN (k + 1)) L ih0 w m b (Int.ofNat p) (Int.ofNat (i + 1)) (Int.ofNat n) ⟨l.length,fl,vL l⟩ z1 z2 q.length c (vL q)):=by
   show b67_3 (puN (k + 1)) L ih0 (l67_3 (puN (k + 1)) L ih0 w) m b (Int.ofNat p) (Int.ofNat i) (Int.ofNat n) ⟨l.length,fl,vL l⟩ z1 z2 q.length c (vL q) = _
   unfold b67_3
   rw [vL_closed,bb_true]
   show bb (ilt (Int.ofNat i) (Int.ofNat l.length)) (oo (toN (Int.ofNat i)) none _) _ = _
   rw [ilt_nat,hlt,bb_true,show toN (Int.ofNat i) = some i from rfl,oo_some]
   show bb (an (Nat.blt i l.length) true) (oo (nthL (vL l) (i * 1)) none _) none = _
   rw [hlt,show an true true = true from rfl,bb_true,vL_get hd,oo_some,show ∀ z,toI .i64 (IV z) = some z from fun _=>rfl,oo_some,e1,e2]
   show oo (puN (k + 1) 64 [IV ((x:Int) * m + b),IV (Int.ofNat n)]) none _ = _
   rw [pu_rest k h.pos (by omega),oo_some]
   unfold m67_4
   show bb (ieq (Int.ofNat (plc n ((x:Int) * m + b))) (Int.ofNat p)) (bb (growC 1 8 q.length c 1 (vL q)) (bb (allL closed1 (appL (dropL 0 (vL q)) [.int .i64 (Int.ofNat p)])) (bb (allL closed1 (appL (dropL 0 (vL q)) [.int .i64 (Int.ofNat p)])) (l67_3 (puN (k + 1)) L ih0 w m b (Int.ofNat p) (wrapF .i64 (Int.add (Int.ofNat i) (1:Int))) (Int.ofNat n) ⟨l.length,fl,vL l⟩ z1 z2 (q.length + 1) (2 * (q.length + 1) + bb false 1 0) (appL (dropL 0 (vL q)) [.int .i64 (Int.ofNat p)])) none) none) none) (bb (allL closed1 (vL q)) (l67_3 (puN (k + 1)) L ih0 w m b (Int.ofNat p) (wrapF .i64 (Int.add (Int.ofNat i) (1:Int))) (Int.ofNat n) ⟨l.length,fl,vL l⟩ z1 z2 q.length c (vL q)) none) = _
   rw [ieq_nat,grow_vL (by omega) hc hc2,vL_snoc,vL_closed,vL_closed,wrapS i (by omega)];rfl
  rw [eq,hits_cons]
  cases hbq:Nat.beq (plc n ((x:Int) * m + b)) p with
  | true =>
   obtain ⟨c',h1,h2,h3⟩:=moved_inner k h fl hm hm2 hb hb2 ih0 p hp z1 z2 r w (i + 1) (2 * (q.length + 1) + bb false 1 0) (q ++ [p]) hd2 (by omega) (by omega) (by simp;omega) (by simp) (by simp)
   rw [List.length_append,show [p].length = 1 from rfl] at h3
   rw [List.append_assoc] at h1 h3
   exact ⟨c',h1,h2,h3⟩
  | false=>exact moved_inner k h fl hm hm2 hb hb2 ih0 p hp z1 z2 r w (i + 1) c q hd2 (by omega) (by omega) (by omega) hc hc2
theorem hits_len (f:Nat→Nat) (l:List Nat) (p:Nat):(hits f l p).length≤l.length:=by
 unfold hits
 rw [List.length_map];exact List.filter_sublist.length_le
theorem moved_outer (k : Nat) {n : Nat} {l : List Nat} (h : Good n l) (fl : Nat) {m b : Int} (hm : -100 ≤ m) (hm2 : m ≤ 100) (hb : -1000 ≤ b) (hb2 : b ≤ 1000) (z1 : Int) : ∀ (j w p c : Nat) (q : List Nat), j < w → p + j = n → q.length ≤ p * 6 → c / 2 = q.length → c % 2 = 0 →
 l67_1 (puN (k + 1)) L w m b (Int.ofNat p) (Int.ofNat n) ⟨l.length,fl,vL l⟩ z1 (Int.ofNat n) q.length c (vL q) = some (seaF n 0 (q ++ movF (fun x=>plc n ((x:Int) * m + b)) l j p))
 | j,0,_,_,_,hw,_,_,_,_=>by omega
 | 0, w + 1, p, c, q, _, hk, _, _, _ => by
  show b67_1 (puN (k + 1)) L (l67_1 (puN (k + 1)) L w) m b (Int.ofNat p) (Int.ofNat n) ⟨l.length,fl,vL l⟩ z1 (Int.ofNat n) q.length c (vL q) = _
  unfold b67_1
  rw [vL_closed,bb_true,ilt_nat,show Nat.blt p n = false from by rw [blt_eq];simp;omega,bb_false]
  unfold m67_0
  have e1:takeL (q.length * 1) (dropL 0 (vL q)) = vL q:=by
   rw [takeL_eq,dropL_eq,List.drop_zero,Nat.mul_one,←vL_len q,List.take_length]
  rw [e1,vL_closed,bb_true,len_eq,vL_len,show Nat.ble (0 + q.length * 1) q.length = true from Nat.ble_eq_true_of_le (by omega)]
  show _ = some (seaF n 0 (q ++ []))
  rw [List.append_nil];rfl
 | j + 1, w + 1, p, c, q, hw, hk, hq, hc, hc2 => by
  show b67_1 (puN (k + 1)) L (l67_1 (puN (k + 1)) L w) m b (Int.ofNat p) (Int.ofNat n) ⟨l.length,fl,vL l⟩ z1 (Int.ofNat n) q.length c (vL q) = _
  have hn:=h.le
  have hfew:=h.few
  unfold b67_1
  rw [vL_closed,bb_true,ilt_nat,show Nat.blt p n = true from by rw [blt_eq];simp;omega,bb_true]
  obtain ⟨c',h1,h2,h3⟩:=moved_inner k h fl hm hm2 hb hb2 (l67_1 (puN (k + 1)) L w) p (by omega) z1 (Int.ofNat n) l L 0 c q List.drop_zero (by show _ < 1000000;omega) (by omega) (by omega) hc hc2
  have h3:l67_3 (puN (k + 1)) L (l67_1 (puN (k + 1)) L w) L m b (Int.ofNat p) (0:Int) (Int.ofNat n) ⟨l.length,fl,vL l⟩ z1 (Int.ofNat n) q.length c (vL q) = _:=h3
  have hh:=hits_len (fun x=>plc n ((x:Int) * m + b)) l p
  rw [h3,moved_outer k h fl hm hm2 hb hb2 z1 j w (p + 1) c' _ (by omega) (by omega) (by rw [List.length_append];omega) h1 h2,List.append_assoc];rfl
theorem hits_inj {f:Nat→Nat} {l:List Nat} (hl:l.Nodup) (hf:∀ a ∈ l,∀ b ∈ l,f a = f b→a = b) (p:Nat):(hits f l p).length≤1:=by
 unfold hits
 rw [List.length_map]
 refine Nat.le_of_not_lt fun h=>?_
 have hnd:=nodup_filter (p:=fun x=>Nat.beq (f x) p) hl
 match hL:l.filter fun x=>Nat.beq (f x) p,h,hnd with
 | x :: y :: r, _, hnd =>
  have hx:x ∈ l.filter fun x=>Nat.beq (f x) p:=by rw [hL];exact List.mem_cons_self
  have hy:y ∈ l.filter fun x=>Nat.beq (f x) p:=by rw [hL];exact List.mem_cons_of_mem _ List.mem_cons_self
  obtain ⟨x1,x2⟩:=List.mem_filter.1 hx
  obtain ⟨y1,y2⟩:=List.mem_filter.1 hy
  have:=hf x x1 y y1 ((Nat.eq_of_beq_eq_true x2).trans (Nat.eq_of_beq_eq_true y2).symm)
  subst this
  exact (List.nodup_cons.1 hnd).1 List.mem_cons_self
theorem hits_mem {f:Nat→Nat} {l:List Nat} {p x:Nat}:x ∈ hits f l p↔x = p∧∃ a ∈ l,f a = p:=by
 unfold hits
 rw [List.mem_map]
 constructor
 ·rintro ⟨a, ha, rfl⟩
  obtain ⟨h1,h2⟩:=List.mem_filter.1 ha
  exact ⟨rfl,a,h1,Nat.eq_of_beq_eq_true h2⟩
 ·rintro ⟨rfl, a, h1, h2⟩
  exact ⟨a,List.mem_filter.2 ⟨h1,by rw [h2,Nat.beq_refl]⟩,rfl⟩
theorem movF_mem (f : Nat → Nat) (l : List Nat) : ∀ (k p x : Nat), x ∈ movF f l k p ↔ p ≤ x ∧ x < p + k ∧ ∃ a ∈ l, f a = x
 | 0,p,x=>by simp [movF];omega
 | k + 1, p, x => by
  show x ∈ hits f l p ++ movF f l k (p + 1)↔_
  rw [List.mem_append,hits_mem,movF_mem f l k (p + 1) x]
  constructor
  ·rintro (⟨rfl, h⟩ | ⟨h1, h2, h3⟩)
   ·exact ⟨Nat.le_refl _,by omega,h⟩
   ·exact ⟨by omega,by omega,h3⟩
  ·rintro ⟨h1, h2, h3⟩
   by_cases h:x = p
   ·exact .inl ⟨h,h ▸ h3⟩
   ·exact .inr ⟨by omega,by omega,h3⟩
theorem movF_sorted {f : Nat → Nat} {l : List Nat} (hl : l.Nodup) (hf : ∀ a ∈ l, ∀ b ∈ l, f a = f b → a = b) : ∀ (k p : Nat), (movF f l k p).Pairwise (· < ·)
 | 0,p=>by simp [movF]
 | k + 1, p => by
  have ih:=movF_sorted hl hf k (p + 1)
  have h1:=hits_inj hl hf p
  show (hits f l p ++ movF f l k (p + 1)).Pairwise _
  refine List.pairwise_append.2 ⟨?_,ih,fun a ha b hb=>?_⟩
  ·match hits f l p, h1 with
   | [],_=>exact .nil
   | [x],_=>exact List.pairwise_singleton _ _
  ·have := (hits_mem.1 ha).1
   have:=(movF_mem f l k (p + 1) b).1 hb
   omega
theorem movF_eq {n:Nat} (hn:n≤31) {f:Nat→Nat} {l:List Nat} (hl:l.Nodup) (hlt:∀ x ∈ l,f x < n) (hf:∀ a ∈ l,∀ b ∈ l,f a = f b→a = b):movF f l n 0 = marksN n (setOf f l 0):=by
 have hz:=setOf_lt f (l:=l) (Nat.two_pow_pos n) hlt
 have hz32:=lt32 hn hz
 refine sorted_ext (movF_sorted hl hf n 0) (marks_sorted hz32) fun x=>?_
 rw [movF_mem,mem_marks hz32,setOf_bit,Nat.zero_testBit,Bool.false_or]
 simp only [List.any_eq_true,decide_eq_true_eq]
 constructor
 ·rintro ⟨_,h1,h2⟩;exact ⟨by omega,h2⟩
 ·rintro ⟨h1,h2⟩;exact ⟨by omega,by omega,h2⟩
theorem p67 (k:Nat) (args:List Value):puN (k + 1) 67 args = m67 (puN k) L args:=by kernel_rfl
theorem pu_movedR (k fl : Nat) {n : Nat} {l : List Nat} (h : Good n l) {m b : Int} (hm : -100 ≤ m) (hm2 : m ≤ 100) (hb : -1000 ≤ b) (hb2 : b ≤ 1000) (hf : ∀ x ∈ l, ∀ y ∈ l, plc n ((x : Int) * m + b) = plc n ((y : Int) * m + b) → x = y) :
 puN (k + 2) 67 [seaF n fl l,IV m,IV b] = some (seaF n 0 (marksN n (setOf (fun x=>plc n ((x:Int) * m + b)) l 0))):=by
 have hn:=h.le
 rw [p67]
 have hl:=moved_outer k h fl hm hm2 hb hb2 0 n L 0 0 [] (by show n < 1000000;omega) (by omega) (by simp) rfl rfl
 rw [List.nil_append,movF_eq (by omega) (nodup_of_lt h.up) (fun x _=>plc_lt h.pos _) hf] at hl
 exact hl
theorem inj1 {n:Nat} {l:List Nat} (h:Good n l) (b:Int):∀ x ∈ l,∀ y ∈ l,plc n ((x:Int) * 1 + b) = plc n ((y:Int) * 1 + b)→x = y:=by
 intro x hx y hy e
 have h1:=h.lt x hx
 have h2:=h.lt y hy
 have hb:=plc_lt h.pos b
 rw [Int.mul_one,Int.mul_one,plc_add h.pos,plc_add h.pos,plc_nat,plc_nat,Nat.mod_eq_of_lt h1,Nat.mod_eq_of_lt h2,mod_add h1 hb,mod_add h2 hb] at e
 revert e
 repeat' split
 all_goals omega
theorem injM {n:Nat} {l:List Nat} (h:Good n l) (b:Int):∀ x ∈ l,∀ y ∈ l,plc n ((x:Int) * (-1) + b) = plc n ((y:Int) * (-1) + b)→x = y:=by
 intro x hx y hy e
 have h1:=h.lt x hx
 have h2:=h.lt y hy
 have hp:=h.pos
 have hb:=plc_lt hp b
 have hm:∀ z,(z:Int) * (-1) = -z:=fun z=>by omega
 rw [hm,hm,plc_add hp,plc_add hp,neg_plc hp h1,neg_plc hp h2] at e
 have e1:(n - x) % n = if x = 0 then 0 else n - x:=by
  split
  ·rename_i h0;rw [h0,Nat.sub_zero,Nat.mod_self]
  ·exact Nat.mod_eq_of_lt (by omega)
 have e2:(n - y) % n = if y = 0 then 0 else n - y:=by
  split
  ·rename_i h0;rw [h0,Nat.sub_zero,Nat.mod_self]
  ·exact Nat.mod_eq_of_lt (by omega)
 have l1:(n - x) % n < n:=Nat.mod_lt _ hp
 have l2:(n - y) % n < n:=Nat.mod_lt _ hp
 rw [mod_add l1 hb,mod_add l2 hb,e1,e2] at e
 revert e
 repeat' split
 all_goals omega
theorem pu_turnR (k fl:Nat) {n:Nat} {l:List Nat} (h:Good n l) {b:Nat} (hb:b < n):puN (k + 2) 67 [seaF n fl l,IV 1,IV (Int.ofNat b)] = some (seaF n 0 (marksN n (turnN n (bitsOf l) b))):=by
 have hn:=h.le
 have:=pu_movedR k fl h (m:=1) (b:=(b:Int)) (by omega) (by omega) (by omega) (by omega) (inj1 h _)
 simp only [Int.mul_one] at this
 have e:=turn_moved h.pos (by omega) (bitsOf_lt h.lt) (b:Int)
 rw [h.marks,plc_nat,Nat.mod_eq_of_lt hb] at e
 rw [e] at this
 exact this
theorem firstR_loop (k fl : Nat) {n : Nat} {l : List Nat} (h : Good n l) (z : Int) : ∀ (j w b : Nat) (best : List Nat), j < w → b + j = n → best.length < 900000 →
 l69_1 (puN (k + 2)) L w (Int.ofNat b) (Int.ofNat n) ⟨l.length,fl,vL l⟩ z (Int.ofNat n) ⟨best.length,0,vL best⟩ = some (seaF n 0 (minL best ((List.range' b j).map fun i=>marksN n (turnN n (bitsOf l) i))))
 | j,0,_,_,hw,_,_=>by omega
 | 0, w + 1, b, best, _, hb, _ => by
  show b69_1 (puN (k + 2)) L (l69_1 (puN (k + 2)) L w) (Int.ofNat b) (Int.ofNat n) ⟨l.length,fl,vL l⟩ z (Int.ofNat n) ⟨best.length,0,vL best⟩ = _
  unfold b69_1
  rw [ilt_nat,show Nat.blt b n = false from by rw [blt_eq];simp;omega];rfl
 | j + 1, w + 1, b, best, hw, hb, hbl => by
  show b69_1 (puN (k + 2)) L (l69_1 (puN (k + 2)) L w) (Int.ofNat b) (Int.ofNat n) ⟨l.length,fl,vL l⟩ z (Int.ofNat n) ⟨best.length,0,vL best⟩ = _
  have hn:=h.le
  have hml:=marks_len (n:=n) (s:=turnN n (bitsOf l) b)
  have go:=fun b' hb'=>firstR_loop k fl h z j w (b + 1) b' (by omega) (by omega) hb'
  unfold b69_1
  rw [ilt_nat,show Nat.blt b n = true from by rw [blt_eq];simp;omega,bb_true]
  show oo (puN (k + 2) 67 [seaF n fl l,IV 1,IV (Int.ofNat b)]) none _ = _
  rw [pu_turnR k fl h (by omega),oo_some]
  show oo (puN (k + 2) 97 [Sl.v 1 ⟨(marksN n (turnN n (bitsOf l) b)).length,0,vL (marksN n (turnN n (bitsOf l) b))⟩,Sl.v 1 ⟨best.length,0,vL best⟩]) none _ = _
  rw [pu_before (k + 1) 0 0 (by omega),oo_some]
  show bb (lexB (marksN n (turnN n (bitsOf l) b)) best) (l69_1 (puN (k + 2)) L w (wrapF .i64 (Int.add (Int.ofNat b) (1:Int))) (Int.ofNat n) ⟨l.length,fl,vL l⟩ z (Int.ofNat n) ⟨(marksN n (turnN n (bitsOf l) b)).length,0,vL (marksN n (turnN n (bitsOf l) b))⟩) (l69_1 (puN (k + 2)) L w (wrapF .i64 (Int.add (Int.ofNat b) (1:Int))) (Int.ofNat n) ⟨l.length,fl,vL l⟩ z (Int.ofNat n) ⟨best.length,0,vL best⟩) = _
  rw [wrapS b (by omega),go _ (by omega),go _ hbl,List.range'_succ,List.map_cons]
  show _ = some (seaF n 0 (minL (bif lexB (marksN n (turnN n (bitsOf l) b)) best then marksN n (turnN n (bitsOf l) b) else best) _))
  cases lexB (marksN n (turnN n (bitsOf l) b)) best <;> rfl
theorem p69 (k:Nat) (args:List Value):puN (k + 1) 69 args = m69 (puN k) L args:=by kernel_rfl
theorem pu_firstR (k fl:Nat) {n:Nat} {l:List Nat} (h:Good n l):puN (k + 3) 69 [seaF n fl l] = some (seaF n 0 (minT n (bitsOf l))):=by
 have hn:=h.le
 have hn0:=h.pos
 have hml:=marks_len (n:=n) (s:=turnN n (bitsOf l) 0)
 rw [p69]
 show oo (puN (k + 2) 67 [seaF n fl l,IV 1,IV (Int.ofNat 0)]) none _ = _
 rw [pu_turnR k fl h h.pos,oo_some]
 have hl:=firstR_loop k fl h 0 (n - 1) L 1 (marksN n (turnN n (bitsOf l) 0)) (by show n - 1 < 1000000;omega) (by omega) (by omega)
 have e:(List.range' 1 (n - 1)).map (fun i=>marksN n (turnN n (bitsOf l) i)) = (List.range (n - 1)).map fun i=>marksN n (turnN n (bitsOf l) (i + 1)):=by
  rw [List.range'_eq_map_range,List.map_map]
  apply List.map_congr_left
  intro i _
  show marksN n (turnN n (bitsOf l) (1 + i)) = _
  rw [Nat.add_comm]
 rw [e] at hl
 exact hl
end Go.RgP
set_option maxRecDepth 100000
set_option maxHeartbeats 4000000
namespace Go.RgP
open Go Go.Sp Go.RgEM
noncomputable def cmpN (a b:List Nat):Int:=bif lexB a b then -1 else bif lexB b a then 1 else 0
theorem p98 (k:Nat) (args:List Value):puN (k + 1) 98 args = m98 (puN k) L args:=by kernel_rfl
theorem p92 (k:Nat) (args:List Value):puN (k + 1) 92 args = m92 (puN k) L args:=by kernel_rfl
theorem pu_cmp (k x y:Nat):puN (k + 2) 92 [IV (Int.ofNat x),IV (Int.ofNat y)] = some (IV (bif Nat.blt x y then -1 else bif Nat.blt y x then 1 else 0)):=by
 have h98:∀ z:Nat,puN (k + 1) 98 [IV (Int.ofNat z)] = some (.bool false):=fun z=>by
  rw [p98]
  show some (Value.bool (nt (ieq (Int.ofNat z) (Int.ofNat z)))) = _
  rw [ieq_nat,Nat.beq_refl];rfl
 rw [p92]
 show m92_ (puN (k + 1)) L (Int.ofNat x) (Int.ofNat y) = _
 unfold m92_
 rw [h98,oo_some,show vBool (Value.bool false) = some false from rfl,oo_some,h98,oo_some,show vBool (Value.bool false) = some false from rfl,oo_some]
 show bb (ilt (Int.ofNat x) (Int.ofNat y)) (some (IV (-1))) (bb (ilt (Int.ofNat y) (Int.ofNat x)) (some (IV 1)) (some (IV 0))) = _
 rw [ilt_nat,ilt_nat]
 cases Nat.blt x y <;> cases Nat.blt y x <;> rfl
theorem cmp_loop (k : Nat) {a b : List Nat} (ha : a.length < 900000) (f1 f2 : Nat) : ∀ (r r' : List Nat) (w i : Nat), a.drop i = r → b.drop i = r' → r.length < w → i ≤ a.length → i ≤ b.length →
 l52_1 (puN (k + 2)) L w ⟨a.length,f1,vL a⟩ ⟨b.length,f2,vL b⟩ ⟨a.length,f1,vL a⟩ (Int.ofNat a.length) (Int.ofNat i) = some (IV (cmpN r r'))
 | _,_,0,_,_,_,h,_,_=>by omega
 | [], r', w + 1, i, hd, hd', _, hi, hi' => by
  show b52_1 (puN (k + 2)) L (l52_1 (puN (k + 2)) L w) ⟨a.length,f1,vL a⟩ ⟨b.length,f2,vL b⟩ ⟨a.length,f1,vL a⟩ (Int.ofNat a.length) (Int.ofNat i) = _
  have h1:a.length≤i:=List.drop_eq_nil_iff.1 hd
  unfold b52_1
  rw [ilt_nat,show Nat.blt i a.length = false from by rw [blt_eq];simp;omega,bb_false]
  show bb (ilt (Int.ofNat a.length) (Int.ofNat b.length)) (some (IV (-1))) (some (IV 0)) = _
  rw [ilt_nat,blt_eq]
  cases r' with
  | nil =>
   have h2:b.length≤i:=List.drop_eq_nil_iff.1 hd'
   rw [decide_eq_false (by omega)];rfl
  | cons y r' =>
   have:=(drop_next hd').2.1
   rw [decide_eq_true (by omega)];rfl
 | x :: r, r', w + 1, i, hd, hd', hw, hi, hi' => by
  show b52_1 (puN (k + 2)) L (l52_1 (puN (k + 2)) L w) ⟨a.length,f1,vL a⟩ ⟨b.length,f2,vL b⟩ ⟨a.length,f1,vL a⟩ (Int.ofNat a.length) (Int.ofNat i) = _
  obtain ⟨hd2,hi2,_⟩:=drop_next hd
  have hr:(x :: r).length = r.length + 1:=rfl
  have hlt:Nat.blt i a.length = true:=by rw [blt_eq];simp;omega
  unfold b52_1
  rw [ilt_nat,hlt,bb_true,show toN (Int.ofNat i) = some i from rfl,oo_some]
  show bb (an (Nat.blt i a.length) true) (oo (nthL (vL a) (i * 1)) none _) none = _
  rw [hlt,show an true true = true from rfl,bb_true,vL_get hd,oo_some,show ∀ z,toI .i64 (IV z) = some z from fun _=>rfl,oo_some]
  cases r' with
  | nil =>
   have h2:b.length≤i:=List.drop_eq_nil_iff.1 hd'
   show bb (nt (ilt (Int.ofNat i) (Int.ofNat b.length))) (some (IV 1)) _ = _
   rw [ilt_nat,show Nat.blt i b.length = false from by rw [blt_eq];simp;omega];rfl
  | cons y r' =>
   obtain ⟨hd3,hi3,_⟩:=drop_next hd'
   have hlt2:Nat.blt i b.length = true:=by rw [blt_eq];simp;omega
   have ih:=cmp_loop k ha f1 f2 r r' w (i + 1) hd2 hd3 (by omega) (by omega) (by omega)
   show bb (nt (ilt (Int.ofNat i) (Int.ofNat b.length))) (some (IV 1)) (bb (an (Nat.blt i b.length) true) (oo (nthL (vL b) (i * 1)) none fun v4808=>oo (toI .i64 v4808) none fun x4810=>oo (puN (k + 2) 92 [IV (Int.ofNat x),IV x4810]) none fun v4816=>oo (toI .i64 v4816) none fun x4818=>bb (nt (ieq x4818 (0:Int))) (some (IV x4818)) (l52_1 (puN (k + 2)) L w ⟨a.length,f1,vL a⟩ ⟨b.length,f2,vL b⟩ ⟨a.length,f1,vL a⟩ (Int.ofNat a.length) (wrapF .i64 (Int.add (Int.ofNat i) (1:Int))))) none) = _
   rw [ilt_nat,hlt2,show nt true = false from rfl,bb_false,show an true true = true from rfl,bb_true,vL_get hd',oo_some,show ∀ z,toI .i64 (IV z) = some z from fun _=>rfl,oo_some,pu_cmp,oo_some,show ∀ z,toI .i64 (IV z) = some z from fun _=>rfl,oo_some,wrapS i (by omega),ih]
   unfold cmpN
   rw [lexB_cons,lexB_cons,blt_eq,blt_eq,beq_dec,beq_dec]
   by_cases h1:x = y
   ·subst h1
    rw [decide_eq_true rfl,decide_eq_false (Nat.lt_irrefl x)];rfl
   ·rw [decide_eq_false h1, decide_eq_false (Ne.symm h1)]
    by_cases h2:x < y
    ·rw [decide_eq_true h2];rfl
    ·rw [decide_eq_false h2,decide_eq_true (show y < x by omega)];rfl
theorem p52 (k:Nat) (args:List Value):puN (k + 1) 52 args = m52 (puN k) L args:=by kernel_rfl
theorem pu_compare (k f1 f2:Nat) {a b:List Nat} (ha:a.length < 900000):puN (k + 3) 52 [Sl.v 1 ⟨a.length,f1,vL a⟩,Sl.v 1 ⟨b.length,f2,vL b⟩] = some (IV (cmpN a b)):=by
 rw [p52]
 exact cmp_loop k ha f1 f2 a b L 0 List.drop_zero List.drop_zero (by show _ < 1000000;omega) (by omega) (by omega)
theorem cmp_neg (a b:List Nat):ilt (cmpN a b) 0 = lexB a b:=by
 unfold cmpN
 cases lexB a b with
 | true=>rfl
 | false=>cases lexB b a <;> rfl
end Go.RgP
set_option maxRecDepth 100000
set_option maxHeartbeats 4000000
namespace Go.RgP
open Go Go.Sp Go.RgEM
theorem on_any (pu:PureF) (L n s:Nat) (x:Int) (hn:0 < n) (hn2:n < 1000):m62 pu L [tv n s,IV x] = some (IV (Int.ofNat (plc n x))):=by
 show m62_ pu L (Int.ofNat n) (Int.ofNat s) x = _
 unfold m62_
 have e:ieq (Int.ofNat n) 0 = false:=by rw [show (0:Int) = Int.ofNat 0 from rfl,ieq_nat];exact beq_ne (by omega)
 rw [e]
 show some (IV (Int.tmod (wrapF .i64 (Int.tmod x (n:Int) + (n:Int))) (n:Int))) = some (IV ((plc n x:Nat):Int))
 have hp:(0:Int) < (n:Int):=by omega
 have g1:=Int.tmod_lt_of_pos x hp
 have g2:-(n:Int) < Int.tmod x n:=by
  have:=Int.lt_tmod_of_pos x hp;omega
 rw [wrapI _ (by omega) (by omega),Int.tmod_eq_emod_of_nonneg (by omega),plc_cast hn]
 have h3:Int.tmod x (n:Int) + (n:Int) = x + (n:Int) * (1 - Int.tdiv x n):=by
  have:=Int.mul_tdiv_add_tmod x (n:Int)
  rw [Int.mul_sub];omega
 rw [h3,Int.add_mul_emod_self_left]
theorem pu_on2 (k:Nat) {n s:Nat} {x:Int} (hn:0 < n) (hn2:n≤60):puN (k + 1) 62 [tv n s,IV x] = some (IV (Int.ofNat (plc n x))):=by
 rw [p62];exact on_any (puN k) L n s x hn (by omega)
theorem p65 (k:Nat) (args:List Value):puN (k + 1) 65 args = m65 (puN k) L args:=by kernel_rfl
theorem pu_turned (k:Nat) {n s b:Nat} (hn:n≤21) (hs:s < 2 ^ n) (hb:b < n):puN (k + 1) 65 [tv n s,IV (Int.ofNat b)] = some (tv n (turnN n s b)):=by
 rw [p65]
 show m65_ (puN k) L (Int.ofNat n) (Int.ofNat s) (Int.ofNat b) = _
 unfold m65_
 have hs32:=lt32 (by omega) hs
 have e1:wrapF .i64 (Int.sub (Int.ofNat n) (Int.ofNat b)) = Int.ofNat (n - b):=by
  show wrapF .i64 ((n:Int) - (b:Int)) = ((n - b:Nat):Int)
  rw [wrapI _ (by omega) (by omega)];omega
 have e2:wrapF .u32 (Int.sub (shlI .u32 (1:Int) n) (1:Int)) = Int.ofNat (2 ^ n - 1):=by
  have h1:2 ^ n < 4294967296:=Nat.lt_of_le_of_lt (Nat.pow_le_pow_right (by omega) hn) (by decide)
  have h2:=Nat.two_pow_pos n
  rw [shl32 (by omega),show Int.sub (Int.ofNat (2 ^ n)) 1 = Int.ofNat (2 ^ n - 1) from by show ((2 ^ n:Nat):Int) - 1 = ((2 ^ n - 1:Nat):Int);omega]
  exact wrap32 (by omega)
 have e3:shlI .u32 (Int.ofNat s) b = Int.ofNat ((s * 2 ^ b) % 4294967296):=by
  show wrapF .u32 (Int.ofNat (s * 2 ^ (min b 32))) = _
  rw [Nat.min_eq_left (by omega)];rfl
 have h4:(s * 2 ^ b) % 4294967296 < 4294967296:=Nat.mod_lt _ (by omega)
 have h5:s / 2 ^ (n - b) < 4294967296:=Nat.lt_of_le_of_lt (Nat.div_le_self _ _) hs32
 have h6:(s * 2 ^ b) % 4294967296 ||| s / 2 ^ (n - b) < 4294967296:=Nat.or_lt_two_pow (n:=32) h4 h5
 have h7:2 ^ n - 1 < 4294967296:=by
  have h1:2 ^ n < 4294967296:=Nat.lt_of_le_of_lt (Nat.pow_le_pow_right (by omega) hn) (by decide)
  omega
 show oo (toN (wrapF .i64 (Int.sub (Int.ofNat n) (Int.ofNat b)))) none (fun k3348=>some (Value.agg ⟨[(.int .i64 (Int.ofNat n)),(.int .u32 (aand .u32 (aor .u32 (shlI .u32 (Int.ofNat s) b) (shrI .u32 (Int.ofNat s) k3348)) (wrapF .u32 (Int.sub (shlI .u32 (1:Int) n) (1:Int)))))]⟩)) = _
 rw [e1,show ∀ j,toN (Int.ofNat j) = some j from fun _=>rfl,oo_some,e2,e3,shr32 hs32,aor32 h4 h5,aand32 h6 h7];rfl
end Go.RgP
set_option maxRecDepth 100000
set_option maxHeartbeats 4000000
namespace Go.RgP
open Go Go.Sp Go.RgEM
theorem p66 (k:Nat) (args:List Value):puN (k + 1) 66 args = m66 (puN k) L args:=by kernel_rfl
theorem pu_seal (k:Nat) {n s:Nat} (hn:n≤60):puN (k + 3) 66 [tv n s] = some (seaF n 0 (marksN n s)):=by
 rw [p66]
 show oo (puN (k + 2) 80 [tv n s]) none _ = _
 rw [pu_marks k hn];rfl
noncomputable def reachV (o:Option Nat):Value:=match o with
 | none=>tup2 (IV 0) (.bool false)
 | some b=>tup2 (IV (Int.ofNat b)) (.bool true)
theorem reach_loop (k : Nat) {n s o : Nat} (hn : n ≤ 21) (hs : s < 2 ^ n) : ∀ (j w b : Nat), j < w → b + j = n →
 l70_1 (puN (k + 1)) L w (Int.ofNat n) (Int.ofNat b) (Int.ofNat n) (Int.ofNat s) (Int.ofNat n) (Int.ofNat o) = some (reachV ((List.range' b j).find? fun b=>Nat.beq (turnN n s b) o))
 | j,0,_,h,_=>by omega
 | 0, w + 1, b, _, hb => by
  show b70_1 (puN (k + 1)) L (l70_1 (puN (k + 1)) L w) (Int.ofNat n) (Int.ofNat b) (Int.ofNat n) (Int.ofNat s) (Int.ofNat n) (Int.ofNat o) = _
  unfold b70_1
  rw [ilt_nat,show Nat.blt b n = false from by rw [blt_eq];simp;omega];rfl
 | j + 1, w + 1, b, hw, hb => by
  show b70_1 (puN (k + 1)) L (l70_1 (puN (k + 1)) L w) (Int.ofNat n) (Int.ofNat b) (Int.ofNat n) (Int.ofNat s) (Int.ofNat n) (Int.ofNat o) = _
  have ih:=reach_loop k (o:=o) hn hs j w (b + 1) (by omega) (by omega)
  unfold b70_1
  rw [ilt_nat,show Nat.blt b n = true from by rw [blt_eq];simp;omega,bb_true]
  show oo (puN (k + 1) 65 [tv n s,IV (Int.ofNat b)]) none _ = _
  rw [pu_turned k hn hs (by omega),oo_some]
  show bb (bq true (an (ieq (Int.ofNat n) (Int.ofNat n)) (an (ieq (Int.ofNat (turnN n s b)) (Int.ofNat o)) true))) (some (tup2 (IV (Int.ofNat b)) (.bool true))) (l70_1 (puN (k + 1)) L w (Int.ofNat n) (wrapF .i64 (Int.add (Int.ofNat b) (1:Int))) (Int.ofNat n) (Int.ofNat s) (Int.ofNat n) (Int.ofNat o)) = _
  rw [ieq_nat,ieq_nat,Nat.beq_refl,wrapS b (by omega),ih,List.range'_succ]
  cases hc:Nat.beq (turnN n s b) o with
  | true=>rw [List.find?_cons_of_pos (p:=fun b=>Nat.beq (turnN n s b) o) hc];rfl
  | false=>rw [List.find?_cons_of_neg (p:=fun b=>Nat.beq (turnN n s b) o) (by rw [hc];simp)];rfl
theorem p70 (k:Nat) (args:List Value):puN (k + 1) 70 args = m70 (puN k) L args:=by kernel_rfl
theorem pu_reaches (k:Nat) {n s o:Nat} (hn:n≤21) (hs:s < 2 ^ n):puN (k + 2) 70 [tv n s,tv n o] = some (reachV (reachN n s o)):=by
 rw [p70]
 have h:=reach_loop k (o:=o) hn hs n L 0 (by show n < 1000000;omega) (by omega)
 rw [←List.range_eq_range'] at h
 exact h
theorem times_loop (k : Nat) {n s : Nat} (hn0 : 0 < n) (hn : n ≤ 21) {m : Int} (hm : -100 ≤ m) (hm2 : m ≤ 100) {l : List Nat} (hl : l.length ≤ 60) (hln : ∀ x ∈ l, x < n) (z1 z2 : Int) : ∀ (r : List Nat) (w i z : Nat), l.drop i = r → r.length < w → i ≤ l.length → z < 2 ^ n →
 l71_1 (puN (k + 1)) L w m ⟨l.length,0,vL l⟩ (Int.ofNat l.length) (Int.ofNat i) (Int.ofNat n) (Int.ofNat s) z1 z2 (Int.ofNat n) (Int.ofNat z) = some (tv n (setOf (fun p=>plc n ((p:Int) * m)) r z))
 | _,0,_,_,_,h,_,_=>by omega
 | [], w + 1, i, z, hd, _, hi, _ => by
  show b71_1 (puN (k + 1)) L (l71_1 (puN (k + 1)) L w) m ⟨l.length,0,vL l⟩ (Int.ofNat l.length) (Int.ofNat i) (Int.ofNat n) (Int.ofNat s) z1 z2 (Int.ofNat n) (Int.ofNat z) = _
  have:l.length≤i:=List.drop_eq_nil_iff.1 hd
  unfold b71_1
  rw [ilt_nat,show Nat.blt i l.length = false from by rw [blt_eq];simp;omega];rfl
 | p :: r, w + 1, i, z, hd, hw, hi, hz => by
  show b71_1 (puN (k + 1)) L (l71_1 (puN (k + 1)) L w) m ⟨l.length,0,vL l⟩ (Int.ofNat l.length) (Int.ofNat i) (Int.ofNat n) (Int.ofNat s) z1 z2 (Int.ofNat n) (Int.ofNat z) = _
  obtain ⟨hd2,hi2,hp⟩:=drop_next hd
  have hr:(p :: r).length = r.length + 1:=rfl
  have hlt:Nat.blt i l.length = true:=by rw [blt_eq];simp;omega
  have hpn:=hln p hp
  have hpl:=plc_lt hn0 ((p:Int) * m)
  have hk:2 ^ plc n ((p:Int) * m) < 2 ^ n:=Nat.pow_lt_pow_right (by omega) hpl
  have hz2:z ||| 2 ^ plc n ((p:Int) * m) < 2 ^ n:=Nat.or_lt_two_pow hz hk
  have ih:=times_loop k (s:=s) hn0 hn hm hm2 hl hln z1 z2 r w (i + 1) _ hd2 (by omega) (by omega) hz2
  have b1:-3200≤(p:Int) * m:=by
   have:(p:Int) * (-100)≤(p:Int) * m:=Int.mul_le_mul_of_nonneg_left hm (by omega)
   omega
  have b2:(p:Int) * m≤3200:=by
   have:(p:Int) * m≤(p:Int) * 100:=Int.mul_le_mul_of_nonneg_left hm2 (by omega)
   omega
  have e1:wrapF .i64 (Int.mul (Int.ofNat p) m) = (p:Int) * m:=wrapI _ (by show _≤(p:Int) * m;omega) (by show (p:Int) * m≤_;omega)
  unfold b71_1
  rw [ilt_nat,hlt,bb_true,show toN (Int.ofNat i) = some i from rfl,oo_some]
  show bb (an (Nat.blt i l.length) true) (oo (nthL (vL l) (i * 1)) none _) none = _
  rw [hlt,show an true true = true from rfl,bb_true,vL_get hd,oo_some,show ∀ z,toI .i64 (IV z) = some z from fun _=>rfl,oo_some,e1]
  show oo (puN (k + 1) 62 [tv n s,IV ((p:Int) * m)]) none _ = _
  rw [pu_on2 k hn0 (by omega),oo_some,show ∀ z,toI .i64 (IV z) = some z from fun _=>rfl,oo_some,show ∀ j,toN (Int.ofNat j) = some j from fun _=>rfl,oo_some,shl32 (by omega),aor32 (lt32 (by omega) hz) (lt32 (by omega) hk),wrapS i (by omega),ih];rfl
theorem p71 (k:Nat) (args:List Value):puN (k + 1) 71 args = m71 (puN k) L args:=by kernel_rfl
noncomputable def timesN (n s:Nat) (m:Int):Nat:=setOf (fun p=>plc n ((p:Int) * m)) (marksN n s) 0
theorem timesN_lt {n s:Nat} (hn0:0 < n) {m:Int}:timesN n s m < 2 ^ n:=setOf_lt _ (Nat.two_pow_pos n) fun p _=>plc_lt hn0 _
theorem pu_times (k:Nat) {n s:Nat} (hn0:0 < n) (hn:n≤21) (hs:s < 2 ^ n) {m:Int} (hm:-100≤m) (hm2:m≤100):puN (k + 3) 71 [tv n s,IV m] = some (tv n (timesN n s m)):=by
 have hs32:=lt32 (n:=n) (by omega) hs
 have hlen:=marks_len (n:=n) (s:=s)
 rw [p71]
 show oo (puN (k + 2) 80 [tv n s]) none _ = _
 rw [pu_marks k (by omega),oo_some]
 have h:=times_loop (k + 1) (s:=s) hn0 hn hm hm2 (l:=marksN n s) (by omega) (fun x hx=>((mem_marks hs32).1 hx).1) 0 0 (marksN n s) L 0 0 List.drop_zero (by show _ < 1000000;omega) (by omega) (Nat.two_pow_pos n)
 rw [show k + 1 + 1 = k + 2 from rfl] at h
 exact h
end Go.RgP
set_option maxRecDepth 100000
set_option maxHeartbeats 4000000
namespace Go.RgP
open Go Go.Sp Go.RgEM
theorem neg_wrap {p:Nat} (hp:p < 1000):wrapF .i64 (Int.sub (.ofNat 0) (Int.ofNat p)) = -(p:Int):=by
 show wrapF .i64 ((0:Int) - (p:Int)) = _
 rw [wrapI _ (by omega) (by omega)];omega
theorem bit0 {s:Nat} (hs:s < 4294967296):ieq (aand .u32 (Int.ofNat s) (1:Int)) (0:Int) = !s.testBit 0:=by
 rw [show (1:Int) = Int.ofNat 1 from rfl,aand32 hs (by omega),show (0:Int) = Int.ofNat 0 from rfl,ieq_nat,Nat.and_one_is_mod,Nat.testBit_zero,beq_dec]
 by_cases h:s % 2 = 1
 ·rw [decide_eq_true h,h];rfl
 ·have : s % 2 = 0 := by omega
  rw [decide_eq_false h,this];rfl
theorem first_loop (k : Nat) {n s : Nat} (hn0 : 0 < n) (hn : n ≤ 21) (hs : s < 2 ^ n) {l : List Nat} (hl : l.length ≤ 60) (hln : ∀ x ∈ l, x < n) (z1 z2 : Int) : ∀ (r : List Nat) (w i best : Nat), l.drop i = r → r.length < w → i ≤ l.length → best < 2 ^ n →
 l68_1 (puN (k + 3)) L w ⟨l.length,0,vL l⟩ (Int.ofNat l.length) (Int.ofNat i) (Int.ofNat n) (Int.ofNat s) z1 z2 (Int.ofNat n) (Int.ofNat best) = some (tv n (r.foldl (fstep n s) best))
 | _,0,_,_,_,h,_,_=>by omega
 | [], w + 1, i, best, hd, _, hi, _ => by
  show b68_1 (puN (k + 3)) L (l68_1 (puN (k + 3)) L w) ⟨l.length,0,vL l⟩ (Int.ofNat l.length) (Int.ofNat i) (Int.ofNat n) (Int.ofNat s) z1 z2 (Int.ofNat n) (Int.ofNat best) = _
  have:l.length≤i:=List.drop_eq_nil_iff.1 hd
  unfold b68_1
  rw [ilt_nat,show Nat.blt i l.length = false from by rw [blt_eq];simp;omega];rfl
 | p :: r, w + 1, i, best, hd, hw, hi, hb => by
  show b68_1 (puN (k + 3)) L (l68_1 (puN (k + 3)) L w) ⟨l.length,0,vL l⟩ (Int.ofNat l.length) (Int.ofNat i) (Int.ofNat n) (Int.ofNat s) z1 z2 (Int.ofNat n) (Int.ofNat best) = _
  obtain ⟨hd2,hi2,hp⟩:=drop_next hd
  have hr:(p :: r).length = r.length + 1:=rfl
  have hlt:Nat.blt i l.length = true:=by rw [blt_eq];simp;omega
  have hpn:=hln p hp
  have hb32:=lt32 (n:=n) (by omega) hb
  have go:=fun b' hb'=>first_loop k hn0 hn hs hl hln z1 z2 r w (i + 1) b' hd2 (by omega) (by omega) hb'
  have m3:∀ c,m68_3 (puN (k + 3)) L (l68_1 (puN (k + 3)) L w) ⟨l.length,0,vL l⟩ (Int.ofNat l.length) (Int.ofNat i) c (Int.ofNat n) (Int.ofNat s) z1 z2 (Int.ofNat n) (Int.ofNat best) (Int.ofNat n) (Int.ofNat (turnN n s (plc n (-(p:Int))))) = some (tv n (r.foldl (fstep n s) (bif c then turnN n s (plc n (-(p:Int))) else best))):=fun c=>by
   unfold m68_3 m68_2
   rw [wrapS i (by omega)]
   cases c with
   | true=>exact go _ turn_lt
   | false=>exact go _ hb
  unfold b68_1
  rw [ilt_nat,hlt,bb_true,show toN (Int.ofNat i) = some i from rfl,oo_some]
  show bb (an (Nat.blt i l.length) true) (oo (nthL (vL l) (i * 1)) none _) none = _
  rw [hlt,show an true true = true from rfl,bb_true,vL_get hd,oo_some,show ∀ z,toI .i64 (IV z) = some z from fun _=>rfl,oo_some,neg_wrap (by omega)]
  show oo (puN (k + 3) 62 [tv n s,IV (-(p:Int))]) none _ = _
  rw [pu_on2 (k + 2) hn0 (by omega),oo_some]
  show oo (puN (k + 3) 65 [tv n s,IV (Int.ofNat (plc n (-(p:Int))))]) none _ = _
  rw [pu_turned (k + 2) hn hs (plc_lt hn0 _),oo_some]
  show bb (ieq (aand .u32 (Int.ofNat best) (1:Int)) (0:Int)) (m68_3 (puN (k + 3)) L (l68_1 (puN (k + 3)) L w) ⟨l.length,0,vL l⟩ (Int.ofNat l.length) (Int.ofNat i) true (Int.ofNat n) (Int.ofNat s) z1 z2 (Int.ofNat n) (Int.ofNat best) (Int.ofNat n) (Int.ofNat (turnN n s (plc n (-(p:Int)))))) (oo (puN (k + 3) 80 [tv n (turnN n s (plc n (-(p:Int))))]) none fun v6104=>oo (toSl 1 v6104) none fun s6106=>oo (puN (k + 3) 80 [tv n best]) none fun v6108=>oo (toSl 1 v6108) none fun s6110=>oo (puN (k + 3) 52 [Sl.v 1 s6106,Sl.v 1 s6110]) none fun v6112=>oo (toI .i64 v6112) none fun x6114=>m68_3 (puN (k + 3)) L (l68_1 (puN (k + 3)) L w) ⟨l.length,0,vL l⟩ (Int.ofNat l.length) (Int.ofNat i) (ilt x6114 (0:Int)) (Int.ofNat n) (Int.ofNat s) z1 z2 (Int.ofNat n) (Int.ofNat best) (Int.ofNat n) (Int.ofNat (turnN n s (plc n (-(p:Int)))))) = _
  have hlen:=marks_len (n:=n) (s:=turnN n s (plc n (-(p:Int))))
  rw [bit0 hb32,m3,pu_marks (k + 1) (by omega),pu_marks (k + 1) (by omega),oo_some,show ∀ sl:Sl,toSl 1 (Sl.v 1 sl) = some sl from fun _=>rfl,oo_some,oo_some,show ∀ sl:Sl,toSl 1 (Sl.v 1 sl) = some sl from fun _=>rfl,oo_some,pu_compare k 0 0 (by omega),oo_some,show ∀ z,toI .i64 (IV z) = some z from fun _=>rfl,oo_some,cmp_neg,m3]
  show _ = some (tv n (r.foldl (fstep n s) (fstep n s best p)))
  unfold fstep
  cases best.testBit 0 <;> rfl
theorem p68 (k:Nat) (args:List Value):puN (k + 1) 68 args = m68 (puN k) L args:=by kernel_rfl
theorem pu_first (k:Nat) {n s:Nat} (hn0:0 < n) (hn:n≤21) (hs:s < 2 ^ n):puN (k + 4) 68 [tv n s] = some (tv n (firstN n s)):=by
 have hs32:=lt32 (n:=n) (by omega) hs
 have hlen:=marks_len (n:=n) (s:=s)
 rw [p68]
 show oo (puN (k + 3) 80 [tv n s]) none _ = _
 rw [pu_marks (k + 1) (by omega),oo_some]
 exact first_loop k hn0 hn hs (by omega) (fun x hx=>((mem_marks hs32).1 hx).1) 0 0 (marksN n s) L 0 s List.drop_zero (by show _ < 1000000;omega) (by omega) hs
end Go.RgP
set_option maxRecDepth 100000
set_option maxHeartbeats 4000000
namespace Go.RgP
open Go Go.Sp Go.RgEM
theorem check_loop (pu : PureF) (L : Nat) {n : Int} {l : List Int} (hl : l.length < 900000) (f f' : Nat) (l' : List Value) (m' : Nat) : ∀ (r : List Int) (w i : Nat) (last : Int), l.drop i = r → r.length < w → i ≤ l.length →
 l25_2 pu L w last ⟨l.length,f,iLI l⟩ (Int.ofNat l.length) (Int.ofNat i) n ⟨m',f',l'⟩ = some (IV (chk n r last))
 | _,0,_,_,_,h,_=>by omega
 | [], w + 1, i, last, hd, _, hi => by
  show b25_2 pu L (l25_2 pu L w) last ⟨l.length,f,iLI l⟩ (Int.ofNat l.length) (Int.ofNat i) n ⟨m',f',l'⟩ = _
  have h1:l.length≤i:=List.drop_eq_nil_iff.1 hd
  unfold b25_2
  rw [ilt_nat,show Nat.blt i l.length = false from by rw [blt_eq];simp;omega];rfl
 | x :: r, w + 1, i, last, hd, hw, hi => by
  show b25_2 pu L (l25_2 pu L w) last ⟨l.length,f,iLI l⟩ (Int.ofNat l.length) (Int.ofNat i) n ⟨m',f',l'⟩ = _
  obtain ⟨hd2,hi2,_⟩:=dropI_next hd
  have hr:(x :: r).length = r.length + 1:=rfl
  have hlt:Nat.blt i l.length = true:=by rw [blt_eq];simp;omega
  have ih:=check_loop pu L (n:=n) hl f f' l' m' r w (i + 1) x hd2 (by omega) (by omega)
  unfold b25_2
  rw [ilt_nat,hlt,bb_true,show toN (Int.ofNat i) = some i from rfl,oo_some]
  show bb (an (Nat.blt i l.length) true) (oo (nthL (iLI l) (i * 1)) none _) none = _
  rw [hlt,show an true true = true from rfl,bb_true,iLI_get hd,oo_some,show ∀ z,toI .i64 (IV z) = some z from fun _=>rfl,oo_some]
  show bb (ilt x 0) (bb true (some (IV 2)) _) (bb (nt (ilt x n)) (some (IV 2)) (bb (nt (ilt last x)) (some (IV 7)) (l25_2 pu L w x ⟨l.length,f,iLI l⟩ (Int.ofNat l.length) (wrapF .i64 (Int.add (Int.ofNat i) (1:Int))) n ⟨m',f',l'⟩))) = some (IV (bif ilt x 0 then 2 else bif nt (ilt x n) then 2 else bif nt (ilt last x) then 7 else chk n r x))
  rw [wrapS i (by omega),ih]
  cases ilt x 0 <;> cases nt (ilt x n) <;> cases nt (ilt last x) <;> rfl
theorem p25 (k:Nat) (args:List Value):puN (k + 1) 25 args = m25 (puN k) L args:=by kernel_rfl
theorem pu_check (k f:Nat) (n:Int) {l:List Int} (hl:l.length < 900000):puN (k + 1) 25 [.agg ⟨[IV n,slI f l]⟩] = some (IV (checkI n l)):=by
 rw [p25]
 show bb (ilt n 1) (m25_0 (puN k) L true n ⟨l.length,f,iLI l⟩) (m25_0 (puN k) L (ilt 21 n) n ⟨l.length,f,iLI l⟩) = _
 have h:=check_loop (puN k) L (n:=n) hl f f (iLI l) l.length l L 0 (-1) List.drop_zero (by show _ < 1000000;omega) (by omega)
 have h0:∀ b,m25_0 (puN k) L b n ⟨l.length,f,iLI l⟩ = some (IV (bif b then 1 else bif Nat.blt 6 l.length then 3 else chk n l (-1))):=fun b=>by
  show bb b (some (IV 1)) (bb (ilt (6:Int) (Int.ofNat l.length)) (some (IV 3)) (l25_2 (puN k) L L (-1:Int) ⟨l.length,f,iLI l⟩ (Int.ofNat l.length) (0:Int) n ⟨l.length,f,iLI l⟩)) = _
  have h:l25_2 (puN k) L L (-1:Int) ⟨l.length,f,iLI l⟩ (Int.ofNat l.length) (0:Int) n ⟨l.length,f,iLI l⟩ = some (IV (chk n l (-1))):=h
  rw [h,show (6:Int) = Int.ofNat 6 from rfl,ilt_nat]
  cases b <;> cases Nat.blt 6 l.length <;> rfl
 rw [h0,h0]
 unfold checkI
 cases ilt n 1 <;> cases ilt 21 n <;> rfl
theorem made_loop (pu : PureF) (L n : Nat) {l : List Nat} (hl : ∀ x ∈ l, x < 31) (hl2 : l.length < 900000) (f : Nat) (a b : Int) : ∀ (r : List Nat) (w i z : Nat), l.drop i = r → r.length < w → i ≤ l.length → z < 2 ^ 31 →
 l96_1 pu L w ⟨l.length,f,vL l⟩ (Int.ofNat l.length) (Int.ofNat i) a b (Int.ofNat n) (Int.ofNat z) = some (tv n (setOf (fun p=>p) r z))
 | _,0,_,_,_,h,_,_=>by omega
 | [], w + 1, i, z, hd, _, hi, _ => by
  show b96_1 pu L (l96_1 pu L w) ⟨l.length,f,vL l⟩ (Int.ofNat l.length) (Int.ofNat i) a b (Int.ofNat n) (Int.ofNat z) = _
  have:l.length≤i:=List.drop_eq_nil_iff.1 hd
  unfold b96_1
  rw [ilt_nat,show Nat.blt i l.length = false from by rw [blt_eq];simp;omega];rfl
 | p :: r, w + 1, i, z, hd, hw, hi, hz => by
  show b96_1 pu L (l96_1 pu L w) ⟨l.length,f,vL l⟩ (Int.ofNat l.length) (Int.ofNat i) a b (Int.ofNat n) (Int.ofNat z) = _
  obtain ⟨hd2,hi2,hb'⟩:=drop_next hd
  have hp:=hl p hb'
  have hr:(p :: r).length = r.length + 1:=rfl
  have hlt:Nat.blt i l.length = true:=by rw [blt_eq];simp;omega
  have hk:2 ^ p < 2 ^ 31:=Nat.pow_lt_pow_right (by omega) hp
  have hz2:z ||| 2 ^ p < 2 ^ 31:=Nat.or_lt_two_pow hz hk
  have ih:=made_loop pu L n hl hl2 f a b r w (i + 1) _ hd2 (by omega) (by omega) hz2
  unfold b96_1
  rw [ilt_nat,hlt,bb_true,show toN (Int.ofNat i) = some i from rfl,oo_some]
  show bb (an (Nat.blt i l.length) true) (oo (nthL (vL l) (i * 1)) none _) none = _
  rw [hlt,show an true true = true from rfl,bb_true,vL_get hd,oo_some,show toI .i64 (IV (Int.ofNat p)) = some (Int.ofNat p) from rfl,oo_some,show toN (Int.ofNat p) = some p from rfl,oo_some,shl32 (by omega),aor32 (by omega) (by omega),wrapS i (by omega),ih];rfl
theorem p96 (k:Nat) (args:List Value):puN (k + 1) 96 args = m96 (puN k) L args:=by kernel_rfl
theorem pu_made (k n f:Nat) {l:List Nat} (hl:∀ x ∈ l,x < 31) (hl2:l.length < 900000):puN (k + 1) 96 [IV (Int.ofNat n),Sl.v 1 ⟨l.length,f,vL l⟩] = some (tv n (bitsOf l)):=by
 rw [p96]
 exact made_loop (puN k) L n hl hl2 f 0 0 l L 0 0 List.drop_zero (by show _ < 1000000;omega) (by omega) (by omega)
theorem p61 (k:Nat) (args:List Value):puN (k + 1) 61 args = m61 (puN k) L args:=by kernel_rfl
theorem pu_opened (k f:Nat) {n:Nat} {l:List Nat} (hn0:0 < n) (hn:n≤21) (hl:l.length≤6) (h1:l.Pairwise (· < ·)) (h2:∀ x ∈ l,x < n):puN (k + 2) 61 [.agg ⟨[IV (Int.ofNat n),Sl.v 1 ⟨l.length,f,vL l⟩]⟩] = some (tup2 (tv n (bitsOf l)) (IV 0)):=by
 rw [p61]
 show oo (puN (k + 1) 25 [.agg ⟨[IV (Int.ofNat n),Sl.v 1 ⟨l.length,f,vL l⟩]⟩]) none _ = _
 have hc:=pu_check k f (Int.ofNat n) (l:=l.map Int.ofNat) (by simp;omega)
 rw [checkI_ok hn0 hn hl h1 h2] at hc
 rw [show Sl.v 1 ⟨l.length,f,vL l⟩ = slI f (l.map Int.ofNat) from by unfold slI;rw [vL_iLI,List.length_map],hc,oo_some]
 show oo (puN (k + 1) 96 [IV (Int.ofNat n),slI f (l.map Int.ofNat)]) none _ = _
 have hm:=pu_made k n f (l:=l) (fun x hx=>by have:=h2 x hx;omega) (by omega)
 rw [show slI f (l.map Int.ofNat) = Sl.v 1 ⟨l.length,f,vL l⟩ from by unfold slI;rw [vL_iLI,List.length_map],hm];rfl
theorem pu_opened_bad (k f:Nat) {n:Int} {l:List Int} (hl:l.length < 900000) (h:checkI n l ≠ 0):puN (k + 2) 61 [.agg ⟨[IV n,slI f l]⟩] = some (tup2 (tv 0 0) (IV (checkI n l))):=by
 rw [p61]
 show oo (puN (k + 1) 25 [.agg ⟨[IV n,slI f l]⟩]) none _ = _
 rw [pu_check k f n hl,oo_some]
 have:ieq (checkI n l) 0 = false:=by rw [ieq_eq];simpa using h
 show bb (nt (ieq (checkI n l) 0)) _ _ = _
 rw [this];rfl
end Go.RgP
