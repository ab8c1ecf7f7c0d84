/- Words. -/
import Derived.Test.YtenlanbdolnhhaaRgBT3x

set_option maxRecDepth 100000
set_option maxHeartbeats 4000000
namespace Go.RgP
open Go Go.Sp Go.RgBM
noncomputable def slv (l:List Nat):Value:=Sl.v 1 ⟨l.length,0,vL l⟩
def U (s:Nat):Value:=.int .u32 (Int.ofNat s)
noncomputable def seaV (n:Nat) (l:List Nat):Value:=.agg ⟨[IV (Int.ofNat n),slv l]⟩
theorem vL_snoc (q:List Nat) (p:Nat):appL (dropL 0 (vL q)) [.int .i64 (Int.ofNat p)] = vL (q ++ [p]):=by
 rw [appL_eq,dropL_eq,List.drop_zero];unfold vL;rw [List.map_append];rfl
theorem grow_vL {q:List Nat} {c:Nat} (hq:q.length≤2000) (hc:c / 2 = q.length) (hc2:c % 2 = 0):growC 1 8 q.length c 1 (vL q) = true:=by
 unfold growC roomy
 rw [len_eq,vL_len,hc,hc2]
 rw [show Nat.ble ((4 * (q.length + 1) + 4096) * 8) 281474976710656 = true from Nat.ble_eq_true_of_le (by omega),show Nat.ble (q.length + 1) q.length = false from by rw [ble_eq];simp,show Nat.ble (0 + q.length * 1) q.length = true from Nat.ble_eq_true_of_le (by omega),show Nat.beq (0 + q.length * 1) q.length = true from by simp]
 rfl
theorem fin_vL (q:List Nat):bb (an (Nat.ble (0 + q.length * 1) (len (vL q))) (allL closed1 (takeL (q.length * 1) (dropL 0 (vL q))))) (some (Sl.v 1 (Sl.mk q.length 0 (takeL (q.length * 1) (dropL 0 (vL q)))))) none = some (slv q):=by
 have e1:takeL (q.length * 1) (dropL 0 (vL q)) = vL q:=by
  rw [takeL_eq,dropL_eq,List.drop_zero,Nat.mul_one,←vL_len q,List.take_length]
 rw [e1,vL_closed,len_eq,vL_len,show Nat.ble (0 + q.length * 1) q.length = true from Nat.ble_eq_true_of_le (by omega)];rfl
theorem rem2 {n:Nat} (hn:0 < n) (hn2:n < 1000) {x:Int} (h1:-1000000000 < x) (h2:x < 1000000000):Int.tmod (wrapF .i64 (Int.add (Int.tmod (wrapF .i64 x) (Int.ofNat n)) (Int.ofNat n))) (Int.ofNat n) = Int.ofNat (plc n x):=by
 rw [wrapI x (by omega) (by omega)]
 show Int.tmod (wrapF .i64 (Int.tmod x (n:Int) + (n:Int))) (n:Int) = ((plc n x:Nat):Int)
 have hp:(0:Int) < (n:Int):=by omega
 have g1:=Int.tmod_lt_of_pos x hp
 have g2:-(n:Int) < Int.tmod x n:=by
  have:=Int.lt_tmod_of_pos x hp;omega
 rw [wrapI _ (by omega) (by omega),Int.tmod_eq_emod_of_nonneg (by omega),plc_cast hn]
 have h3:Int.tmod x (n:Int) + (n:Int) = x + (n:Int) * (1 - Int.tdiv x n):=by
  have:=Int.mul_tdiv_add_tmod x (n:Int)
  rw [Int.mul_sub];omega
 rw [h3,Int.add_mul_emod_self_left]
theorem marks_len {n s:Nat}:(marksN n s).length≤n:=markF_len s n 0
def iLI (l:List Int):List Value:=l.map IV
theorem vL_iLI (l:List Nat):vL l = iLI (l.map Int.ofNat):=by unfold vL iLI;rw [List.map_map];rfl
theorem iLI_get {l:List Int} {i:Nat} {b:Int} {r:List Int} (h:l.drop i = b :: r):nthL (iLI l) (i * 1) = some (IV b):=by
 rw [nthL_eq,Nat.mul_one]
 have:l[i]? = some b:=by
  have:=congrArg List.head? h
  rw [List.head?_drop] at this;exact this
 unfold iLI
 rw [List.getElem?_map,this];rfl
theorem dropI_next {l:List Int} {i:Nat} {b:Int} {r:List Int} (h:l.drop i = b :: r):l.drop (i + 1) = r∧i < l.length∧b ∈ l:=by
 refine ⟨?_,?_,?_⟩
 ·rw [←List.drop_drop,h];rfl
 ·have := congrArg List.length h
  simp at this;omega
 ·have : b ∈ l.drop i := by rw [h]; exact List.mem_cons_self
  exact List.mem_of_mem_drop this
noncomputable def chk (n : Int) : List Int → Int → Int
 | [],_=>0
 | m :: r,last=>bif ilt m 0 then 2 else bif nt (ilt m n) then 2 else bif nt (ilt last m) then 7 else chk n r m
noncomputable def checkI (n:Int) (l:List Int):Int:=bif ilt n 1 then 1 else bif ilt 21 n then 1 else bif Nat.blt 6 l.length then 3 else chk n l (-1)
noncomputable def slI (f:Nat) (l:List Int):Value:=Sl.v 1 ⟨l.length,f,iLI l⟩
theorem slv_slI (l:List Nat):slv l = slI 0 (l.map Int.ofNat):=by unfold slv slI;rw [vL_iLI,List.length_map]
theorem map_ofNat_inj {a b:List Nat}:a.map Int.ofNat = b.map Int.ofNat↔a = b:=by
 constructor
 ·intro h
  have:=congrArg (List.map Int.toNat) h
  simpa [List.map_map,Function.comp_def] using this
 ·rintro rfl;rfl
theorem chk_ok {n : Nat} : ∀ {m : List Nat} {last : Int}, -1 ≤ last → m.Pairwise (· < ·) → (∀ x ∈ m, x < n) → (∀ x ∈ m, last < (x : Int)) → chk (Int.ofNat n) (m.map Int.ofNat) last = 0
 | [],_,_,_,_,_=>rfl
 | x :: m, last, hl, h1, h2, h3 => by
  obtain ⟨p1,p2⟩:=List.pairwise_cons.1 h1
  have a1:=h2 x List.mem_cons_self
  have a2:=h3 x List.mem_cons_self
  show (bif ilt (x:Int) 0 then (2:Int) else bif nt (ilt (x:Int) (n:Int)) then 2 else bif nt (ilt last (x:Int)) then 7 else chk (Int.ofNat n) (m.map Int.ofNat) (x:Int)) = 0
  rw [ilt_eq,ilt_eq,ilt_eq,decide_eq_false (show ¬ (x:Int) < 0 by omega),decide_eq_true (show (x:Int) < (n:Int) by omega),decide_eq_true a2]
  exact chk_ok (by omega) p2 (fun y hy=>h2 y (List.mem_cons_of_mem _ hy)) fun y hy=>by have:=p1 y hy;omega
theorem checkI_ok {n:Nat} {m:List Nat} (hn0:0 < n) (hn:n≤21) (hl:m.length≤6) (h1:m.Pairwise (· < ·)) (h2:∀ x ∈ m,x < n):checkI (Int.ofNat n) (m.map Int.ofNat) = 0:=by
 show (bif ilt (Int.ofNat n) (Int.ofNat 1) then (1:Int) else bif ilt (Int.ofNat 21) (Int.ofNat n) then 1 else bif Nat.blt 6 (m.map Int.ofNat).length then 3 else chk (Int.ofNat n) (m.map Int.ofNat) (-1)) = 0
 rw [ilt_nat,ilt_nat,blt_eq,blt_eq,blt_eq,List.length_map,decide_eq_false (by omega),decide_eq_false (by omega),decide_eq_false (by omega)]
 exact chk_ok (last:=-1) (Int.le_refl _) h1 h2 fun x _=>by omega
def bitsOf (l:List Nat):Nat:=setOf (fun p=>p) l 0
theorem bitsOf_bit (l:List Nat) (q:Nat):(bitsOf l).testBit q = decide (q ∈ l):=by
 unfold bitsOf
 rw [setOf_bit,Nat.zero_testBit,Bool.false_or,Bool.eq_iff_iff]
 simp only [List.any_eq_true,decide_eq_true_eq]
 exact ⟨fun ⟨p,hp,e⟩=>e ▸ hp,fun h=>⟨q,h,rfl⟩⟩
theorem bitsOf_lt {n:Nat} {l:List Nat} (h:∀ x ∈ l,x < n):bitsOf l < 2 ^ n:=setOf_lt _ (Nat.two_pow_pos n) h
theorem marks_bitsOf {n:Nat} (hn:n≤31) {l:List Nat} (h1:l.Pairwise (· < ·)) (h2:∀ x ∈ l,x < n):marksN n (bitsOf l) = l:=by
 have h:=lt32 hn (bitsOf_lt h2)
 refine sorted_ext (marks_sorted h) h1 fun x=>?_
 rw [mem_marks h,bitsOf_bit,decide_eq_true_eq]
 exact ⟨fun h=>h.2,fun h=>⟨h2 x h,h⟩⟩
theorem bitsOf_marks {n s:Nat} (hn:n≤31) (hs:s < 2 ^ n):bitsOf (marksN n s) = s:=by
 have hs32:=lt32 hn hs
 refine set_ext (n:=n) (bitsOf_lt fun x hx=>((mem_marks hs32).1 hx).1) hs fun q hq=>?_
 rw [bitsOf_bit,Bool.eq_iff_iff,decide_eq_true_eq,mem_marks hs32]
 exact ⟨fun h=>h.2,fun h=>⟨hq,h⟩⟩
noncomputable def tup2 (a b:Value):Value:=.tuple ⟨[a,b]⟩
structure Good (n:Nat) (l:List Nat):Prop where
 pos:0 < n
 le:n≤21
 few:l.length≤6
 up:l.Pairwise (· < ·)
 lt:∀ x ∈ l,x < n
noncomputable def seaF (n f:Nat) (l:List Nat):Value:=.agg ⟨[IV (Int.ofNat n),Sl.v 1 ⟨l.length,f,vL l⟩]⟩
theorem dists_len (n:Nat) (l:List Nat):(dists n l).length = n - 1:=by unfold dists;simp
theorem Good.lt32 {n:Nat} {l:List Nat} (h:Good n l):bitsOf l < 4294967296:=Go.RgP.lt32 (n:=n) (by have:=h.le;omega) (bitsOf_lt h.lt)
theorem Good.marks {n:Nat} {l:List Nat} (h:Good n l):marksN n (bitsOf l) = l:=marks_bitsOf (by have:=h.le;omega) h.up h.lt
theorem pu_clashes (k:Nat) {n:Nat} {l:List Nat} (h:Good n l):puN (k + 4) 76 [tv n (bitsOf l)] = some (IV (Int.ofNat (firstD n l))):=by
 have h2:=h.le
 have:=pu_clash k (n:=n) (s:=bitsOf l) h.pos (by omega)
 rw [clashN_eq h.lt32,h.marks] at this
 exact this
end Go.RgP
set_option maxRecDepth 100000
set_option maxHeartbeats 4000000
namespace Go.RgP
open Go Go.Sp Go.RgBM
theorem check_loop (pu : PureF) (L : Nat) {n : Int} {l : List Int} (hl : l.length < 900000) (f f' : Nat) (l' : List Value) (m' : Nat) : ∀ (r : List Int) (w i : Nat) (last : Int), l.drop i = r → r.length < w → i ≤ l.length →
 l25_2 pu L w last ⟨l.length,f,iLI l⟩ (Int.ofNat l.length) (Int.ofNat i) n ⟨m',f',l'⟩ = some (IV (chk n r last))
 | _,0,_,_,_,h,_=>by omega
 | [], w + 1, i, last, hd, _, hi => by
  show b25_2 pu L (l25_2 pu L w) last ⟨l.length,f,iLI l⟩ (Int.ofNat l.length) (Int.ofNat i) n ⟨m',f',l'⟩ = _
  have h1:l.length≤i:=List.drop_eq_nil_iff.1 hd
  unfold b25_2
  rw [ilt_nat,show Nat.blt i l.length = false from by rw [blt_eq];simp;omega];rfl
 | x :: r, w + 1, i, last, hd, hw, hi => by
  show b25_2 pu L (l25_2 pu L w) last ⟨l.length,f,iLI l⟩ (Int.ofNat l.length) (Int.ofNat i) n ⟨m',f',l'⟩ = _
  obtain ⟨hd2,hi2,_⟩:=dropI_next hd
  have hr:(x :: r).length = r.length + 1:=rfl
  have hlt:Nat.blt i l.length = true:=by rw [blt_eq];simp;omega
  have ih:=check_loop pu L (n:=n) hl f f' l' m' r w (i + 1) x hd2 (by omega) (by omega)
  unfold b25_2
  rw [ilt_nat,hlt,bb_true,show toN (Int.ofNat i) = some i from rfl,oo_some]
  show bb (an (Nat.blt i l.length) true) (oo (nthL (iLI l) (i * 1)) none _) none = _
  rw [hlt,show an true true = true from rfl,bb_true,iLI_get hd,oo_some,show ∀ z,toI .i64 (IV z) = some z from fun _=>rfl,oo_some]
  show bb (ilt x 0) (bb true (some (IV 2)) _) (bb (nt (ilt x n)) (some (IV 2)) (bb (nt (ilt last x)) (some (IV 7)) (l25_2 pu L w x ⟨l.length,f,iLI l⟩ (Int.ofNat l.length) (wrapF .i64 (Int.add (Int.ofNat i) (1:Int))) n ⟨m',f',l'⟩))) = some (IV (bif ilt x 0 then 2 else bif nt (ilt x n) then 2 else bif nt (ilt last x) then 7 else chk n r x))
  rw [wrapS i (by omega),ih]
  cases ilt x 0 <;> cases nt (ilt x n) <;> cases nt (ilt last x) <;> rfl
theorem p25 (k:Nat) (args:List Value):puN (k + 1) 25 args = m25 (puN k) L args:=by kernel_rfl
theorem pu_check (k f:Nat) (n:Int) {l:List Int} (hl:l.length < 900000):puN (k + 1) 25 [.agg ⟨[IV n,slI f l]⟩] = some (IV (checkI n l)):=by
 rw [p25]
 show bb (ilt n 1) (m25_0 (puN k) L true n ⟨l.length,f,iLI l⟩) (m25_0 (puN k) L (ilt 21 n) n ⟨l.length,f,iLI l⟩) = _
 have h:=check_loop (puN k) L (n:=n) hl f f (iLI l) l.length l L 0 (-1) List.drop_zero (by show _ < 1000000;omega) (by omega)
 have h0:∀ b,m25_0 (puN k) L b n ⟨l.length,f,iLI l⟩ = some (IV (bif b then 1 else bif Nat.blt 6 l.length then 3 else chk n l (-1))):=fun b=>by
  show bb b (some (IV 1)) (bb (ilt (6:Int) (Int.ofNat l.length)) (some (IV 3)) (l25_2 (puN k) L L (-1:Int) ⟨l.length,f,iLI l⟩ (Int.ofNat l.length) (0:Int) n ⟨l.length,f,iLI l⟩)) = _
  have h:l25_2 (puN k) L L (-1:Int) ⟨l.length,f,iLI l⟩ (Int.ofNat l.length) (0:Int) n ⟨l.length,f,iLI l⟩ = some (IV (chk n l (-1))):=h
  rw [h,show (6:Int) = Int.ofNat 6 from rfl,ilt_nat]
  cases b <;> cases Nat.blt 6 l.length <;> rfl
 rw [h0,h0]
 unfold checkI
 cases ilt n 1 <;> cases ilt 21 n <;> rfl
theorem made_loop (pu : PureF) (L n : Nat) {l : List Nat} (hl : ∀ x ∈ l, x < 31) (hl2 : l.length < 900000) (f : Nat) (a b : Int) : ∀ (r : List Nat) (w i z : Nat), l.drop i = r → r.length < w → i ≤ l.length → z < 2 ^ 31 →
 l96_1 pu L w ⟨l.length,f,vL l⟩ (Int.ofNat l.length) (Int.ofNat i) a b (Int.ofNat n) (Int.ofNat z) = some (tv n (setOf (fun p=>p) r z))
 | _,0,_,_,_,h,_,_=>by omega
 | [], w + 1, i, z, hd, _, hi, _ => by
  show b96_1 pu L (l96_1 pu L w) ⟨l.length,f,vL l⟩ (Int.ofNat l.length) (Int.ofNat i) a b (Int.ofNat n) (Int.ofNat z) = _
  have:l.length≤i:=List.drop_eq_nil_iff.1 hd
  unfold b96_1
  rw [ilt_nat,show Nat.blt i l.length = false from by rw [blt_eq];simp;omega];rfl
 | p :: r, w + 1, i, z, hd, hw, hi, hz => by
  show b96_1 pu L (l96_1 pu L w) ⟨l.length,f,vL l⟩ (Int.ofNat l.length) (Int.ofNat i) a b (Int.ofNat n) (Int.ofNat z) = _
  obtain ⟨hd2,hi2,hb'⟩:=drop_next hd
  have hp:=hl p hb'
  have hr:(p :: r).length = r.length + 1:=rfl
  have hlt:Nat.blt i l.length = true:=by rw [blt_eq];simp;omega
  have hk:2 ^ p < 2 ^ 31:=Nat.pow_lt_pow_right (by omega) hp
  have hz2:z ||| 2 ^ p < 2 ^ 31:=Nat.or_lt_two_pow hz hk
  have ih:=made_loop pu L n hl hl2 f a b r w (i + 1) _ hd2 (by omega) (by omega) hz2
  unfold b96_1
  rw [ilt_nat,hlt,bb_true,show toN (Int.ofNat i) = some i from rfl,oo_some]
  show bb (an (Nat.blt i l.length) true) (oo (nthL (vL l) (i * 1)) none _) none = _
  rw [hlt,show an true true = true from rfl,bb_true,vL_get hd,oo_some,show toI .i64 (IV (Int.ofNat p)) = some (Int.ofNat p) from rfl,oo_some,show toN (Int.ofNat p) = some p from rfl,oo_some,shl32 (by omega),aor32 (by omega) (by omega),wrapS i (by omega),ih];rfl
theorem p96 (k:Nat) (args:List Value):puN (k + 1) 96 args = m96 (puN k) L args:=by kernel_rfl
theorem pu_made (k n f:Nat) {l:List Nat} (hl:∀ x ∈ l,x < 31) (hl2:l.length < 900000):puN (k + 1) 96 [IV (Int.ofNat n),Sl.v 1 ⟨l.length,f,vL l⟩] = some (tv n (bitsOf l)):=by
 rw [p96]
 exact made_loop (puN k) L n hl hl2 f 0 0 l L 0 0 List.drop_zero (by show _ < 1000000;omega) (by omega) (by omega)
theorem p61 (k:Nat) (args:List Value):puN (k + 1) 61 args = m61 (puN k) L args:=by kernel_rfl
theorem pu_opened (k f:Nat) {n:Nat} {l:List Nat} (hn0:0 < n) (hn:n≤21) (hl:l.length≤6) (h1:l.Pairwise (· < ·)) (h2:∀ x ∈ l,x < n):puN (k + 2) 61 [.agg ⟨[IV (Int.ofNat n),Sl.v 1 ⟨l.length,f,vL l⟩]⟩] = some (tup2 (tv n (bitsOf l)) (IV 0)):=by
 rw [p61]
 show oo (puN (k + 1) 25 [.agg ⟨[IV (Int.ofNat n),Sl.v 1 ⟨l.length,f,vL l⟩]⟩]) none _ = _
 have hc:=pu_check k f (Int.ofNat n) (l:=l.map Int.ofNat) (by simp;omega)
 rw [checkI_ok hn0 hn hl h1 h2] at hc
 rw [show Sl.v 1 ⟨l.length,f,vL l⟩ = slI f (l.map Int.ofNat) from by unfold slI;rw [vL_iLI,List.length_map],hc,oo_some]
 show oo (puN (k + 1) 96 [IV (Int.ofNat n),slI f (l.map Int.ofNat)]) none _ = _
 have hm:=pu_made k n f (l:=l) (fun x hx=>by have:=h2 x hx;omega) (by omega)
 rw [show slI f (l.map Int.ofNat) = Sl.v 1 ⟨l.length,f,vL l⟩ from by unfold slI;rw [vL_iLI,List.length_map],hm];rfl
end Go.RgP
set_option maxRecDepth 100000
set_option maxHeartbeats 4000000
namespace Go.RgP
open Go Go.Sp Go.RgBM
theorem markF_add (s : Nat) : ∀ (a b p : Nat), markF s (a + b) p = markF s a p ++ markF s b (p + a)
 | 0,b,p=>by rw [Nat.zero_add];rfl
 | a + 1, b, p => by
  rw [show a + 1 + b = (a + b) + 1 by omega]
  show (bif hasB s p then p :: markF s (a + b) (p + 1) else markF s (a + b) (p + 1)) = (bif hasB s p then p :: markF s a (p + 1) else markF s a (p + 1)) ++ markF s b (p + (a + 1))
  rw [markF_add s a b (p + 1),show p + 1 + a = p + (a + 1) by omega]
  cases hasB s p <;> rfl
theorem markF_shift {s : Nat} (hs : s < 4294967296) (d : Nat) : ∀ (k p : Nat), p + k ≤ 8 → (markF s k (p + d)).length = (markF (s / 2 ^ d % 256) k p).length
 | 0,_,_=>rfl
 | k + 1, p, h => by
  have e:hasB s (p + d) = hasB (s / 2 ^ d % 256) p:=by
   rw [hasB_eq hs,hasB_eq (Nat.lt_of_lt_of_le (Nat.mod_lt _ (by omega)) (by omega)),show (256:Nat) = 2 ^ 8 from rfl,Nat.testBit_mod_two_pow,←Nat.shiftRight_eq_div_pow,Nat.testBit_shiftRight]
   simp [show p < 8 by omega,Nat.add_comm]
  have ih:=markF_shift hs d k (p + 1) (by omega)
  rw [show p + 1 + d = p + d + 1 by omega] at ih
  unfold markF
  rw [e]
  cases hasB (s / 2 ^ d % 256) p with
  | true=>show (markF s k (p + d + 1)).length + 1 = (markF _ k (p + 1)).length + 1;rw [ih]
  | false=>exact ih
noncomputable def popB (b:Nat):Option Nat:=oo (str0[b]?) none fun c=>some c.toNat
theorem pop_tab:mapL popB (List.range 256) = mapL (fun b=>some (len (markF b 8 0))) (List.range 256):=by kernel_rfl
theorem mapL_eq' {α β:Type} (f:α→β) (l:List α):mapL f l = l.map f:=by
 induction l with
 | nil=>rfl
 | cons x l ih=>show f x :: mapL f l = _;rw [ih];rfl
theorem pop_at {b:Nat} (hb:b < 256):∃ c,str0[b]? = some c∧c.toNat = (markF b 8 0).length:=by
 have h:=congrArg (fun l:List (Option Nat)=>l[b]?) pop_tab
 simp only [mapL_eq',List.getElem?_map,List.getElem?_range hb,Option.map_some,len_eq] at h
 injection h with h
 obtain ⟨c,h1,h2⟩:=oo_inv (show oo (str0[b]?) none (fun c=>some c.toNat) = some _ from h)
 injection h2 with h2
 exact ⟨c,h1,h2⟩
theorem p50 (k:Nat) (args:List Value):puN (k + 1) 50 args = m50 (puN k) L args:=by kernel_rfl
theorem wrap8 {a:Nat} (ha:a < 256):wrapF .u8 (Int.ofNat a) = Int.ofNat a:=by
 show Int.ofNat (a % 256) = _
 rw [Nat.mod_eq_of_lt ha]
theorem and255 {a:Nat} (ha:a < 4294967296):aand .u32 (Int.ofNat a) (255:Int) = Int.ofNat (a % 256):=by
 rw [show (255:Int) = Int.ofNat 255 from rfl,aand32 ha (by omega),show (255:Nat) = 2 ^ 8 - 1 from rfl,Nat.and_two_pow_sub_one_eq_mod]
theorem markF_len8 (b:Nat):(markF b 8 0).length≤8:=markF_len b 8 0
theorem pu_ones (k:Nat) {s:Nat} (hs:s < 4294967296):puN (k + 1) 50 [U s] = some (IV (Int.ofNat (marksN 32 s).length)):=by
 rw [p50]
 show m50_ (puN k) L (Int.ofNat s) = _
 unfold m50_
 have d1:s / 2 ^ 16 < 4294967296:=Nat.lt_of_le_of_lt (Nat.div_le_self _ _) hs
 have d2:s / 2 ^ 8 < 4294967296:=Nat.lt_of_le_of_lt (Nat.div_le_self _ _) hs
 have d3:s / 2 ^ 24 < 256:=by omega
 obtain ⟨c0,g0,n0⟩:=pop_at d3
 obtain ⟨c1,g1,n1⟩:=pop_at (b:=s / 2 ^ 16 % 256) (Nat.mod_lt _ (by omega))
 obtain ⟨c2,g2,n2⟩:=pop_at (b:=s / 2 ^ 8 % 256) (Nat.mod_lt _ (by omega))
 obtain ⟨c3,g3,n3⟩:=pop_at (b:=s % 256) (Nat.mod_lt _ (by omega))
 rw [shr32 hs,shr32 hs,shr32 hs,and255 d1,and255 d2,and255 hs]
 show oo (str0[s / 2 ^ 24]?) none _ = _
 rw [g0,oo_some]
 show oo (str0[s / 2 ^ 16 % 256]?) none _ = _
 rw [g1,oo_some]
 show oo (str0[s / 2 ^ 8 % 256]?) none _ = _
 rw [g2,oo_some]
 show oo (str0[s % 256]?) none _ = _
 rw [g3,oo_some,n0,n1,n2,n3]
 have l0:=markF_len8 (s / 2 ^ 24)
 have l1:=markF_len8 (s / 2 ^ 16 % 256)
 have l2:=markF_len8 (s / 2 ^ 8 % 256)
 have l3:=markF_len8 (s % 256)
 show some (IV (wrapF .i64 (wrapF .u8 (Int.add (wrapF .u8 (Int.add (wrapF .u8 (Int.ofNat ((markF (s / 2 ^ 24) 8 0).length + (markF (s / 2 ^ 16 % 256) 8 0).length))) _)) _)))) = _
 rw [wrap8 (by omega)]
 show some (IV (wrapF .i64 (wrapF .u8 (Int.add (wrapF .u8 (Int.ofNat ((markF (s / 2 ^ 24) 8 0).length + (markF (s / 2 ^ 16 % 256) 8 0).length + (markF (s / 2 ^ 8 % 256) 8 0).length))) _)))) = _
 rw [wrap8 (by omega)]
 show some (IV (wrapF .i64 (wrapF .u8 (Int.ofNat ((markF (s / 2 ^ 24) 8 0).length + (markF (s / 2 ^ 16 % 256) 8 0).length + (markF (s / 2 ^ 8 % 256) 8 0).length + (markF (s % 256) 8 0).length))))) = _
 have e:(marksN 32 s).length = (markF (s / 2 ^ 24) 8 0).length + (markF (s / 2 ^ 16 % 256) 8 0).length + (markF (s / 2 ^ 8 % 256) 8 0).length + (markF (s % 256) 8 0).length:=by
  show (markF s (8 + (8 + (8 + 8))) 0).length = _
  rw [markF_add,markF_add,markF_add]
  simp only [List.length_append]
  have q0:=markF_shift hs 0 8 0 (by omega)
  have q1:=markF_shift hs 8 8 0 (by omega)
  have q2:=markF_shift hs 16 8 0 (by omega)
  have q3:=markF_shift hs 24 8 0 (by omega)
  rw [Nat.pow_zero,Nat.div_one] at q0
  rw [show s / 2 ^ 24 % 256 = s / 2 ^ 24 from Nat.mod_eq_of_lt d3] at q3
  simp only [Nat.zero_add] at q0 q1 q2 q3
  show (markF s 8 0).length + ((markF s 8 8).length + ((markF s 8 16).length + (markF s 8 24).length)) = _
  rw [q0,q1,q2,q3];omega
 generalize (markF (s / 2 ^ 24) 8 0).length = a0 at *
 generalize (markF (s / 2 ^ 16 % 256) 8 0).length = a1 at *
 generalize (markF (s / 2 ^ 8 % 256) 8 0).length = a2 at *
 generalize (markF (s % 256) 8 0).length = a3 at *
 rw [wrap8 (by omega),wrapI _ (by simp;omega) (by simp;omega),e]
end Go.RgP
set_option maxRecDepth 100000
set_option maxHeartbeats 4000000
namespace Go.RgP
open Go Go.Sp Go.RgBM
theorem firstD_zero {n:Nat} {l:List Nat}:firstD n l = 0↔∀ d,0 < d→d < n→cntD n l d≤1:=by
 constructor
 ·intro h d d1 d2
  refine Nat.le_of_not_lt fun hc=>?_
  have hf:(((List.range (n - 1)).map (· + 1)).find? fun d=>decide (1 < cntD n l d)).isSome:=by
   rw [List.find?_isSome];exact ⟨d,List.mem_map.2 ⟨d - 1,List.mem_range.2 (by omega),by omega⟩,by simpa using hc⟩
  obtain ⟨z,hz⟩:=Option.isSome_iff_exists.1 hf
  obtain ⟨i,_,hi⟩:=List.mem_map.1 (List.mem_of_find?_eq_some hz)
  have:firstD n l = z:=by unfold firstD;rw [hz];rfl
  omega
 ·intro h
  refine firstD_spec (.inl rfl) fun d d1 d2 hc=>?_
  have:=h d d1 d2;omega
theorem cntD_mono {n:Nat} {l l':List Nat} (h:l'.Sublist l) (d:Nat):cntD n l' d≤cntD n l d:=by
 unfold cntD
 refine Nat.le_trans (List.countP_mono_left fun a ha hd=>?_) (h.countP_le)
 exact decide_eq_true (h.subset (of_decide_eq_true hd))
theorem firstD_mono {n:Nat} {l l':List Nat} (h:l'.Sublist l) (h0:firstD n l = 0):firstD n l' = 0:=
 firstD_zero.2 fun d d1 d2=>Nat.le_trans (cntD_mono h d) (firstD_zero.1 h0 d d1 d2)
noncomputable def freeB (n s p:Nat):Bool:=!s.testBit p && Nat.beq (firstD n (marksN n (s ||| 2 ^ p))) 0
noncomputable def roomF (n s : Nat) : Nat → Nat → List Nat
 | 0,_=>[]
 | k + 1,p=>bif freeB n s p then p :: roomF n s k (p + 1) else roomF n s k (p + 1)
noncomputable def roomN (n s:Nat):List Nat:=roomF n s n 0
theorem roomF_len (n s : Nat) : ∀ k p, (roomF n s k p).length ≤ k
 | 0,_=>Nat.le_refl _
 | k + 1, p => by
  have ih:=roomF_len n s k (p + 1)
  unfold roomF
  cases freeB n s p with
  | true=>show (roomF n s k (p + 1)).length + 1≤_;omega
  | false=>show (roomF n s k (p + 1)).length≤_;omega
theorem or_lt32 {n s p:Nat} (hn:n≤21) (hs:s < 2 ^ n) (hp:p < n):s ||| 2 ^ p < 2 ^ n:=Nat.or_lt_two_pow hs (Nat.pow_lt_pow_right (by omega) hp)
theorem bit_shl {s p:Nat} (hn:s < 4294967296) (hp:p < 31):aor .u32 (Int.ofNat s) (shlI .u32 (1:Int) p) = Int.ofNat (s ||| 2 ^ p):=by
 rw [shl32 (by omega),aor32 hn (Nat.lt_of_lt_of_le (Nat.pow_lt_pow_right (by omega) hp) (by decide:2 ^ 31≤4294967296))]
theorem clash_any (k:Nat) {n s:Nat} (hn0:0 < n) (hn:n≤21) (hs:s < 4294967296):puN (k + 4) 76 [tv n s] = some (IV (Int.ofNat (firstD n (marksN n s)))):=by
 rw [pu_clash k hn0 (by omega),clashN_eq hs]
theorem ret44 (pu:PureF) (L:Nat) (q:List Nat) (c:Nat):m44_0 pu L q.length c (vL q) = some (tup2 (slv q) (IV 0)):=by
 unfold m44_0
 have h:=fin_vL q
 rw [vL_closed,bb_true]
 have e1:takeL (q.length * 1) (dropL 0 (vL q)) = vL q:=by
  rw [takeL_eq,dropL_eq,List.drop_zero,Nat.mul_one,←vL_len q,List.take_length]
 rw [e1,vL_closed,len_eq,vL_len,show Nat.ble (0 + q.length * 1) q.length = true from Nat.ble_eq_true_of_le (by omega)];rfl
theorem room_loop (k : Nat) {n s : Nat} (hn0 : 0 < n) (hn : n ≤ 21) (hs : s < 2 ^ n) : ∀ (j w p c : Nat) (q : List Nat), j < w → p + j = n → q.length ≤ p → c / 2 = q.length → c % 2 = 0 →
 l44_1 (puN (k + 4)) L w q.length c (Int.ofNat n) (Int.ofNat p) (Int.ofNat n) (Int.ofNat s) (vL q) = some (tup2 (slv (q ++ roomF n s j p)) (IV 0))
 | j,0,_,_,_,h,_,_,_,_=>by omega
 | 0, w + 1, p, c, q, _, hk, _, _, _ => by
  show b44_1 (puN (k + 4)) L (l44_1 (puN (k + 4)) L w) q.length c (Int.ofNat n) (Int.ofNat p) (Int.ofNat n) (Int.ofNat s) (vL q) = _
  unfold b44_1
  rw [vL_closed,bb_true,ilt_nat,show Nat.blt p n = false from by rw [blt_eq];simp;omega,bb_false,ret44]
  show _ = some (tup2 (slv (q ++ [])) (IV 0))
  rw [List.append_nil]
 | j + 1, w + 1, p, c, q, hw, hk, hq, hc, hc2 => by
  show b44_1 (puN (k + 4)) L (l44_1 (puN (k + 4)) L w) q.length c (Int.ofNat n) (Int.ofNat p) (Int.ofNat n) (Int.ofNat s) (vL q) = _
  have hs32:=lt32 (by omega) hs
  unfold b44_1
  rw [vL_closed,bb_true,ilt_nat,show Nat.blt p n = true from by rw [blt_eq];simp;omega,bb_true,show ∀ i,toN (Int.ofNat i) = some i from fun _=>rfl,oo_some]
  show oo (puN (k + 4) 91 [tv n s,IV (Int.ofNat p)]) none _ = _
  rw [pu_has,hasB_eq hs32,oo_some]
  show bb (nt (s.testBit p)) (oo (puN (k + 4) 76 [.agg ⟨[.int .i64 (Int.ofNat n),.int .u32 (aor .u32 (Int.ofNat s) (shlI .u32 (1:Int) p))]⟩]) none _) _ = _
  rw [bit_shl hs32 (by omega)]
  have hcl:=clash_any k (s:=s ||| 2 ^ p) hn0 hn (lt32 (by omega) (or_lt32 hn hs (by omega)))
  have hs':wrapF .i64 (Int.add (Int.ofNat p) 1) = Int.ofNat (p + 1):=wrapS p (by omega)
  have stay:=room_loop k hn0 hn hs j w (p + 1) c q (by omega) (by omega) (by omega) hc hc2
  have go:=room_loop k hn0 hn hs j w (p + 1) (2 * (q.length + 1) + bb false 1 0) (q ++ [p]) (by omega) (by omega) (by simp;omega) (by simp) (by simp)
  rw [List.length_append,show [p].length = 1 from rfl] at go
  have hstay:m44_3 (puN (k + 4)) L (l44_1 (puN (k + 4)) L w) q.length c (Int.ofNat p) (Int.ofNat n) (Int.ofNat p) false (Int.ofNat n) (Int.ofNat s) (vL q) = some (tup2 (slv (q ++ roomF n s j (p + 1))) (IV 0)):=by
   unfold m44_3 m44_2
   rw [bb_false,vL_closed,bb_true,bb_true,hs',stay]
  have hgo:m44_3 (puN (k + 4)) L (l44_1 (puN (k + 4)) L w) q.length c (Int.ofNat p) (Int.ofNat n) (Int.ofNat p) true (Int.ofNat n) (Int.ofNat s) (vL q) = some (tup2 (slv (q ++ p :: roomF n s j (p + 1))) (IV 0)):=by
   unfold m44_3 m44_2
   rw [bb_true,grow_vL (by omega) hc hc2,bb_true,vL_snoc,vL_closed,bb_true,bb_true,hs',go,List.append_assoc];rfl
  show bb (nt (s.testBit p)) (oo (puN (k + 4) 76 [tv n (s ||| 2 ^ p)]) none _) _ = _
  rw [hcl,oo_some]
  show bb (nt (s.testBit p)) (m44_3 (puN (k + 4)) L (l44_1 (puN (k + 4)) L w) q.length c (Int.ofNat p) (Int.ofNat n) (Int.ofNat p) (ieq (Int.ofNat (firstD n (marksN n (s ||| 2 ^ p)))) (Int.ofNat 0)) (Int.ofNat n) (Int.ofNat s) (vL q)) (m44_3 (puN (k + 4)) L (l44_1 (puN (k + 4)) L w) q.length c (Int.ofNat p) (Int.ofNat n) (Int.ofNat p) false (Int.ofNat n) (Int.ofNat s) (vL q)) = _
  rw [ieq_nat]
  unfold roomF freeB
  cases s.testBit p with
  | true=>exact hstay
  | false =>
   cases Nat.beq (firstD n (marksN n (s ||| 2 ^ p))) 0 with
   | true=>exact hgo
   | false=>exact hstay
theorem p44 (k:Nat) (args:List Value):puN (k + 1) 44 args = m44 (puN k) L args:=by kernel_rfl
noncomputable def nilV:Value:=Sl.v 1 ⟨0,2,[]⟩
noncomputable def roomV (n:Nat) (l:List Nat):Value:=bif Nat.beq l.length 6 then tup2 nilV (IV 3) else bif Nat.blt 0 (firstD n l) then tup2 nilV (IV 14) else tup2 (slv (roomN n (bitsOf l))) (IV 0)
theorem pu_room (k f:Nat) {n:Nat} {l:List Nat} (h:Good n l):puN (k + 5) 44 [seaF n f l] = some (roomV n l):=by
 have hlt:=bitsOf_lt h.lt
 have hn:=h.le
 rw [p44]
 show oo (puN (k + 4) 61 [seaF n f l]) none _ = _
 rw [show puN (k + 4) 61 [seaF n f l] = _ from pu_opened (k + 2) f h.pos h.le h.few h.up h.lt,oo_some]
 show oo (puN (k + 4) 50 [U (bitsOf l)]) none _ = _
 have h50:=pu_ones (k + 3) h.lt32
 rw [marks_more h.lt32 hlt (by omega),h.marks] at h50
 rw [h50,oo_some]
 show bb (ieq (Int.ofNat l.length) (Int.ofNat 6)) (some (tup2 nilV (IV 3))) (oo (puN (k + 4) 76 [tv n (bitsOf l)]) none fun v=>oo (toI .i64 v) none fun x=>bb (ilt (0:Int) x) (some (tup2 nilV (IV 14))) (l44_1 (puN (k + 4)) L L 0 0 (Int.ofNat n) (0:Int) (Int.ofNat n) (Int.ofNat (bitsOf l)) ([]:List Value))) = _
 rw [ieq_nat,pu_clashes k h,oo_some,show ∀ z,toI .i64 (IV z) = some z from fun _=>rfl,oo_some,show (0:Int) = Int.ofNat 0 from rfl,ilt_nat]
 have hl:=room_loop k h.pos h.le hlt n L 0 0 [] (by show n < 1000000;omega) (by omega) (by simp) rfl rfl
 have hl:l44_1 (puN (k + 4)) L L 0 0 (Int.ofNat n) (Int.ofNat 0) (Int.ofNat n) (Int.ofNat (bitsOf l)) ([]:List Value) = some (tup2 (slv (roomN n (bitsOf l))) (IV 0)):=hl
 rw [hl]
 unfold roomV
 cases Nat.beq l.length 6 <;> cases Nat.blt 0 (firstD n l) <;> rfl
end Go.RgP
set_option maxRecDepth 100000
set_option maxHeartbeats 4000000
namespace Go.RgP
open Go Go.Sp Go.RgBM
theorem p29 (k:Nat) (args:List Value):puN (k + 1) 29 args = m29 (puN k) L args:=by kernel_rfl
theorem pu_narrow (k f:Nat) {n:Nat} {l:List Nat} (h:Good n l):puN (k + 5) 29 [seaF n f l] = some (tup2 (IV (Int.ofNat (firstD n l))) (IV (bif Nat.blt 0 (firstD n l) then 13 else 0))):=by
 rw [p29]
 show oo (puN (k + 4) 61 [seaF n f l]) none _ = _
 rw [show puN (k + 4) 61 [seaF n f l] = _ from pu_opened (k + 2) f h.pos h.le h.few h.up h.lt,oo_some]
 show oo (puN (k + 4) 76 [tv n (bitsOf l)]) none _ = _
 rw [pu_clashes k h,oo_some]
 show bb (ilt (0:Int) (Int.ofNat (firstD n l))) _ _ = _
 rw [show (0:Int) = Int.ofNat 0 from rfl,ilt_nat]
 cases hb:Nat.blt 0 (firstD n l) with
 | true=>rfl
 | false =>
  have:firstD n l = 0:=by rw [blt_eq] at hb;simpa using hb
  rw [this];rfl
end Go.RgP
set_option maxRecDepth 100000
set_option maxHeartbeats 4000000
namespace Go.RgP
open Go Go.Sp Go.RgBM
theorem same2_loop (pu : PureF) (L : Nat) {a b : List Int} (hab : a.length = b.length) (ha : a.length < 900000) (f1 f2 : Nat) : ∀ (r r' : List Int) (w i : Nat), a.drop i = r → b.drop i = r' → r.length < w → i ≤ a.length →
 l10230_1 pu L w ⟨a.length,f1,iLI a⟩ ⟨b.length,f2,iLI b⟩ (Int.ofNat i) = some (.tuple ⟨[.bool (decide (r = r'))]⟩)
 | _,_,0,_,_,_,h,_=>by omega
 | [], r', w + 1, i, hd, hd', _, hi => by
  show b10230_1 pu L (l10230_1 pu L w) ⟨a.length,f1,iLI a⟩ ⟨b.length,f2,iLI b⟩ (Int.ofNat i) = _
  have h1:a.length≤i:=List.drop_eq_nil_iff.1 hd
  have h2:r' = []:=by rw [←hd'];exact List.drop_eq_nil_iff.2 (by omega)
  subst h2
  unfold b10230_1
  show bb (ilt (Int.ofNat i) (Int.ofNat a.length)) _ _ = _
  rw [ilt_nat,show Nat.blt i a.length = false from by rw [blt_eq];simp;omega];simp;rfl
 | x :: r, r', w + 1, i, hd, hd', hw, hi => by
  show b10230_1 pu L (l10230_1 pu L w) ⟨a.length,f1,iLI a⟩ ⟨b.length,f2,iLI b⟩ (Int.ofNat i) = _
  obtain ⟨hd2,hi2,_⟩:=dropI_next hd
  cases r' with
  | nil =>
   have h1:b.length≤i:=List.drop_eq_nil_iff.1 hd'
   omega
  | cons y r' =>
   obtain ⟨hd3,_,_⟩:=dropI_next hd'
   have hr:(x :: r).length = r.length + 1:=rfl
   have hlt:Nat.blt i a.length = true:=by rw [blt_eq];simp;omega
   have hlt2:Nat.blt i b.length = true:=by rw [blt_eq];simp;omega
   have ih:=same2_loop pu L hab ha f1 f2 r r' w (i + 1) hd2 hd3 (by omega) (by omega)
   unfold b10230_1
   show bb (ilt (Int.ofNat i) (Int.ofNat a.length)) (oo (toN (Int.ofNat i)) none fun k=>bb (an (Nat.blt k a.length) true) (oo (nthL (iLI a) (k * 1)) none fun v=>oo (toI .i64 v) none fun x1=>bb (an (Nat.blt k b.length) true) (oo (nthL (iLI b) (k * 1)) none fun v=>oo (toI .i64 v) none fun x2=>bb (nt (ieq x1 x2)) (some (.tuple ⟨[.bool false]⟩)) (l10230_1 pu L w ⟨a.length,f1,iLI a⟩ ⟨b.length,f2,iLI b⟩ (wrapF .i64 (Int.add (Int.ofNat k) (1:Int))))) none) none) (m10230_0 pu L) = _
   rw [ilt_nat, hlt, bb_true, show toN (Int.ofNat i) = some i from rfl, oo_some, hlt, show an true true = true from rfl, bb_true, iLI_get hd, oo_some, show ∀ z, toI .i64 (IV z) = some z from fun _ => rfl, oo_some, hlt2, show an true true = true from rfl, bb_true, iLI_get hd', oo_some,
    show ∀ z,toI .i64 (IV z) = some z from fun _=>rfl,oo_some,wrapS i (by omega),ih,ieq_eq]
   by_cases h:x = y
   ·subst h;simp
   ·have hxy : (x == y) = false := by simpa using h
    have hc:¬ (x :: r = y :: r'):=fun e=>h (by injection e)
    rw [hxy,decide_eq_false hc];rfl
theorem p10230 (k:Nat) (args:List Value):puN (k + 1) 10230 args = m10230 (puN k) L args:=by kernel_rfl
theorem pu_same2 (k f1 f2:Nat) {a b:List Int} (ha:a.length < 900000):puN (k + 1) 10230 [slI f1 a,slI f2 b] = some (.tuple ⟨[.bool (decide (a = b))]⟩):=by
 rw [p10230]
 show bb (nt (ieq (Int.ofNat a.length) (Int.ofNat b.length))) (some (.tuple ⟨[.bool false]⟩)) (l10230_1 (puN k) L L ⟨a.length,f1,iLI a⟩ ⟨b.length,f2,iLI b⟩ (0:Int)) = _
 rw [ieq_nat,beq_dec]
 by_cases h:a.length = b.length
 ·rw [decide_eq_true h, show nt true = false from rfl, bb_false]
  exact same2_loop (puN k) L h ha f1 f2 a b L 0 (List.drop_zero) (List.drop_zero) (by show _ < 1000000;omega) (by omega)
 ·have : ¬ a = b := fun e => h (by rw [e])
  rw [decide_eq_false h,decide_eq_false this];rfl
theorem pu_same2N (k:Nat) {a b:List Nat} (ha:a.length < 900000):puN (k + 1) 10230 [slv a,slv b] = some (.tuple ⟨[.bool (decide (a = b))]⟩):=by
 rw [slv_slI,slv_slI,pu_same2 k 0 0 (by simpa using ha)]
 rw [decide_eq_decide.2 (map_ofNat_inj (a:=a) (b:=b))]
end Go.RgP
set_option maxRecDepth 100000
set_option maxHeartbeats 4000000
namespace Go.RgP
open Go Go.Sp Go.RgBM
theorem fewer {s t:Nat} (hs:s < 4294967296) (hle:∀ q,t.testBit q = true→s.testBit q = true) (ht:t < s):(marksN 32 t).length < (marksN 32 s).length:=by
 have ht32:t < 4294967296:=by omega
 have e:marksN 32 t = (marksN 32 s).filter fun x=>t.testBit x:=by
  refine sorted_ext (marks_sorted ht32) (List.Pairwise.sublist List.filter_sublist (marks_sorted hs)) fun x=>?_
  rw [mem_marks ht32,List.mem_filter,mem_marks hs]
  exact ⟨fun h=>⟨⟨h.1,hle x h.2⟩,h.2⟩,fun h=>⟨h.1.1,h.2⟩⟩
 rw [e]
 have hle2:=List.filter_sublist (p:=fun x=>t.testBit x) (l:=marksN 32 s)
 refine Nat.lt_of_le_of_ne hle2.length_le fun he=>?_
 have:=hle2.eq_of_length he
 rw [←e] at this
 have h2:∀ q,q < 32→t.testBit q = s.testBit q:=fun q hq=>by
  have hm:q ∈ marksN 32 t↔q ∈ marksN 32 s:=by rw [this]
  rw [mem_marks ht32,mem_marks hs] at hm
  rw [Bool.eq_iff_iff]
  exact ⟨fun h=>(hm.1 ⟨hq,h⟩).2,fun h=>(hm.2 ⟨hq,h⟩).2⟩
 have:=set_ext (n:=32) (a:=t) (b:=s) ht32 hs h2
 omega
theorem stamp_loop (k : Nat) {n : Nat} (hn : n ≤ 21) : ∀ (w s : Nat), s < 2 ^ n → (marksN 32 s).length < w → ∃ t, l46_1 (puN (k + 1)) L w (Int.ofNat n) (Int.ofNat s) = some (tup2 (IV (Int.ofNat n)) (U t)) ∧ t < 2 ^ n ∧ (marksN 32 t).length ≤ 6
 | 0,_,_,h=>by omega
 | w + 1, s, hs, hw => by
  have hs32:=lt32 (by omega) hs
  have hb:l46_1 (puN (k + 1)) L (w + 1) (Int.ofNat n) (Int.ofNat s) = bb (Nat.blt 6 (marksN 32 s).length) (l46_1 (puN (k + 1)) L w (Int.ofNat n) (aand .u32 (Int.ofNat s) (wrapF .u32 (Int.sub (Int.ofNat s) (1:Int))))) (some (tup2 (IV (Int.ofNat n)) (U s))):=by
   show b46_1 (puN (k + 1)) L (l46_1 (puN (k + 1)) L w) (Int.ofNat n) (Int.ofNat s) = _
   unfold b46_1
   show oo (puN (k + 1) 50 [U s]) none _ = _
   rw [pu_ones k hs32,oo_some]
   show bb (ilt (Int.ofNat 6) (Int.ofNat (marksN 32 s).length)) _ _ = _
   rw [ilt_nat];rfl
  rw [hb]
  cases hc:Nat.blt 6 (marksN 32 s).length with
  | false =>
   rw [blt_eq] at hc
   exact ⟨s,rfl,hs,by simpa using hc⟩
  | true =>
   rw [blt_eq] at hc
   have hc:6 < (marksN 32 s).length:=by simpa using hc
   have hs0:0 < s:=by
    rcases Nat.eq_zero_or_pos s with h | h
    ·exfalso
     have:∀ x,x ∉ marksN 32 s:=fun x hx=>by
      have:=((mem_marks hs32).1 hx).2
      rw [h] at this;simp at this
     have:marksN 32 s = []:=List.eq_nil_iff_forall_not_mem.2 this
     rw [this] at hc;simp at hc
    ·exact h
   have hle:s &&& (s - 1)≤s - 1:=Nat.and_le_right
   have e:wrapF .u32 (Int.sub (Int.ofNat s) (1:Int)) = Int.ofNat (s - 1):=by
    rw [show Int.sub (Int.ofNat s) (1:Int) = Int.ofNat (s - 1) from by show (s:Int) - 1 = ((s - 1:Nat):Int);omega]
    exact wrap32 (by omega)
   rw [bb_true,e,aand32 hs32 (by omega)]
   have hf:=fewer (t:=s &&& (s - 1)) hs32 (fun q h=>by rw [Nat.testBit_and] at h;exact (Bool.and_eq_true _ _ ▸ h).1) (by omega)
   exact stamp_loop k hn w (s &&& (s - 1)) (by omega) (by omega)
theorem p46 (k:Nat) (args:List Value):puN (k + 1) 46 args = m46 (puN k) L args:=by kernel_rfl
theorem pu_stamp (k : Nat) {most p b : Nat} (hm0 : 0 < most) (hm : most ≤ 21) (hp : p < 256) (hb : b < 4294967296) : ∃ l, Good (1 + p % most) l ∧
 puN (k + 2) 46 [.agg ⟨[.int .u8 (Int.ofNat p),.int .u32 (Int.ofNat b)]⟩,IV (Int.ofNat most)] = some (tup2 (IV (Int.ofNat (1 + p % most))) (U (bitsOf l))):=by
 have hmod:p % most < most:=Nat.mod_lt _ hm0
 have h2n:2 ^ (1 + p % most) < 4294967296:=Nat.lt_of_le_of_lt (Nat.pow_le_pow_right (by omega) (show 1 + p % most≤21 by omega)) (by decide)
 have hpos:=Nat.two_pow_pos (1 + p % most)
 have hlt:b &&& (2 ^ (1 + p % most) - 1) < 2 ^ (1 + p % most):=by rw [Nat.and_two_pow_sub_one_eq_mod];exact Nat.mod_lt _ hpos
 have hlen:(marksN 32 (b &&& (2 ^ (1 + p % most) - 1))).length≤32:=marks_len
 obtain ⟨t,h1,h2,h3⟩:=stamp_loop k (n:=1 + p % most) (by omega) L (b &&& (2 ^ (1 + p % most) - 1)) hlt (by show _ < 1000000;omega)
 have ht32:=lt32 (n:=1 + p % most) (by omega) h2
 refine ⟨marksN (1 + p % most) t,⟨by omega,by omega,?_,marks_sorted ht32,fun x hx=>((mem_marks ht32).1 hx).1⟩,?_⟩
 ·rw [←marks_more (m:=32) ht32 h2 (by omega)];exact h3
 ·rw [bitsOf_marks (by omega) h2, p46]
  show m46_ (puN (k + 1)) L (Int.ofNat p) (Int.ofNat b) (Int.ofNat most) = _
  unfold m46_
  have e0:ieq (Int.ofNat most) 0 = false:=by rw [show (0:Int) = Int.ofNat 0 from rfl,ieq_nat];exact beq_ne (by omega)
  have e1:wrapF .i64 (Int.add (1:Int) (Int.tmod (wrapF .i64 (Int.ofNat p)) (Int.ofNat most))) = Int.ofNat (1 + p % most):=by
   rw [wrapI (Int.ofNat p) (by show (-9223372036854775808:Int)≤(p:Int);omega) (by show (p:Int)≤9223372036854775807;omega)]
   show wrapF .i64 ((1:Int) + Int.tmod (p:Int) (most:Int)) = (((1 + p % most:Nat)):Int)
   rw [Int.tmod_eq_emod_of_nonneg (by omega),←Int.natCast_emod,wrapI _ (by omega) (by omega)];omega
  rw [e0,show nt false = true from rfl,bb_true,e1]
  show oo (toN (Int.ofNat (1 + p % most))) none _ = _
  rw [show ∀ j,toN (Int.ofNat j) = some j from fun _=>rfl,oo_some,shl32 (by omega)]
  have e2:wrapF .u32 (Int.sub (Int.ofNat (2 ^ (1 + p % most))) (1:Int)) = Int.ofNat (2 ^ (1 + p % most) - 1):=by
   rw [show Int.sub (Int.ofNat (2 ^ (1 + p % most))) (1:Int) = Int.ofNat (2 ^ (1 + p % most) - 1) from by show ((2 ^ (1 + p % most):Nat):Int) - 1 = ((2 ^ (1 + p % most) - 1:Nat):Int);omega]
   exact wrap32 (by omega)
  rw [e2,aand32 hb (by omega),h1]
end Go.RgP
set_option maxRecDepth 100000
set_option maxHeartbeats 4000000
namespace Go.RgP
open Go Go.Sp Go.RgBM
theorem marks48_loop (pu : PureF) (L s : Nat) : ∀ (k w p c : Nat) (q : List Nat), k < w → p + k = 21 → q.length ≤ p → c / 2 = q.length → c % 2 = 0 →
 l48_1 pu L w (Int.ofNat s) q.length c (Int.ofNat p) (vL q) = some (slv (q ++ markF s k p))
 | k,0,_,_,_,h,_,_,_,_=>by omega
 | 0, w + 1, p, c, q, _, hk, _, _, _ => by
  show b48_1 pu L (l48_1 pu L w) (Int.ofNat s) q.length c (Int.ofNat p) (vL q) = _
  unfold b48_1
  rw [vL_closed,bb_true,show (21:Int) = Int.ofNat 21 from rfl,ilt_nat,show Nat.blt p 21 = false from by rw [blt_eq];simp;omega,bb_false]
  unfold m48_0
  rw [vL_closed,bb_true,fin_vL]
  show _ = some (slv (q ++ []))
  rw [List.append_nil]
 | k + 1, w + 1, p, c, q, hw, hk, hq, hc, hc2 => by
  show b48_1 pu L (l48_1 pu L w) (Int.ofNat s) q.length c (Int.ofNat p) (vL q) = _
  unfold b48_1
  rw [vL_closed,bb_true,show (21:Int) = Int.ofNat 21 from rfl,ilt_nat,show Nat.blt p 21 = true from by rw [blt_eq];simp;omega,bb_true]
  show bb (hasB s p) _ _ = _
  have hs:wrapF .i64 (Int.add (Int.ofNat p) 1) = Int.ofNat (p + 1):=wrapS p (by omega)
  unfold markF
  cases hasB s p with
  | false =>
   rw [bb_false]
   unfold m48_2
   rw [vL_closed,bb_true,hs]
   exact marks48_loop pu L s k w (p + 1) c q (by omega) (by omega) (by omega) hc hc2
  | true =>
   rw [bb_true,grow_vL (by omega) hc hc2,bb_true,vL_snoc,vL_closed,bb_true]
   unfold m48_2
   rw [vL_closed,bb_true,hs]
   have ih:=marks48_loop pu L s k w (p + 1) (2 * (q.length + 1) + bb false 1 0) (q ++ [p]) (by omega) (by omega) (by simp;omega) (by simp) (by simp)
   rw [List.length_append] at ih
   show l48_1 pu L w (Int.ofNat s) (q.length + 1) (2 * (q.length + 1) + bb false 1 0) (Int.ofNat (p + 1)) (vL (q ++ [p])) = _
   rw [show [p].length = 1 from rfl] at ih
   rw [ih,List.append_assoc];rfl
theorem p48 (k:Nat) (args:List Value):puN (k + 1) 48 args = m48 (puN k) L args:=by kernel_rfl
theorem pu_marks48 (k s:Nat):puN (k + 1) 48 [U s] = some (slv (marksN 21 s)):=by
 rw [p48];exact marks48_loop (puN k) L s 21 L 0 0 [] (by show 21 < 1000000;omega) rfl (by simp) rfl rfl
theorem p47 (k:Nat) (args:List Value):puN (k + 1) 47 args = m47 (puN k) L args:=by kernel_rfl
theorem pu_sealed (k n s:Nat):puN (k + 2) 47 [IV (Int.ofNat n),U s] = some (seaV n (marksN 21 s)):=by
 rw [p47]
 show oo (puN (k + 1) 48 [U s]) none _ = _
 rw [pu_marks48,oo_some];rfl
end Go.RgP
set_option maxRecDepth 100000
set_option maxHeartbeats 4000000
namespace Go.RgP
open Go Go.Sp Go.RgBM
theorem moved49_loop (pu : PureF) (L : Nat) {n : Nat} (hn0 : 0 < n) (hn : n ≤ 21) {m b : Int} (hm : -100 ≤ m) (hm2 : m ≤ 100) (hb : -100000000 ≤ b) (hb2 : b ≤ 100000000) {l : List Nat} (hl : ∀ x ∈ l, x < 32) (hl2 : l.length < 100) :
 ∀ (r:List Nat) (w i z:Nat),l.drop i = r→r.length < w→i≤l.length→z < 2 ^ n →
 l49_1 pu L w (Int.ofNat n) m b (Int.ofNat z) ⟨l.length,0,vL l⟩ (Int.ofNat l.length) (Int.ofNat i) = some (U (setOf (fun p=>plc n ((p:Int) * m + b)) r z))
 | _,0,_,_,_,h,_,_=>by omega
 | [], w + 1, i, z, hd, _, hi, _ => by
  show b49_1 pu L (l49_1 pu L w) (Int.ofNat n) m b (Int.ofNat z) ⟨l.length,0,vL l⟩ (Int.ofNat l.length) (Int.ofNat i) = _
  have:l.length≤i:=List.drop_eq_nil_iff.1 hd
  unfold b49_1
  rw [ilt_nat,show Nat.blt i l.length = false from by rw [blt_eq];simp;omega];rfl
 | p :: r, w + 1, i, z, hd, hw, hi, hz => by
  show b49_1 pu L (l49_1 pu L w) (Int.ofNat n) m b (Int.ofNat z) ⟨l.length,0,vL l⟩ (Int.ofNat l.length) (Int.ofNat i) = _
  obtain ⟨hd2,hi2,hb'⟩:=drop_next hd
  have hp:=hl p hb'
  have hr:(p :: r).length = r.length + 1:=rfl
  have hlt:Nat.blt i l.length = true:=by rw [blt_eq];simp;omega
  have hs:wrapF .i64 (Int.add (Int.ofNat i) 1) = Int.ofNat (i + 1):=wrapS i (by omega)
  have hpl:=plc_lt hn0 ((p:Int) * m + b)
  have hk:2 ^ plc n ((p:Int) * m + b) < 2 ^ n:=Nat.pow_lt_pow_right (by omega) hpl
  have hz2:z ||| 2 ^ plc n ((p:Int) * m + b) < 2 ^ n:=Nat.or_lt_two_pow hz hk
  have ih:=moved49_loop pu L hn0 hn hm hm2 hb hb2 hl hl2 r w (i + 1) _ hd2 (by omega) (by omega) hz2
  have b1:-3200≤(p:Int) * m:=by
   have:(p:Int) * (-100)≤(p:Int) * m:=Int.mul_le_mul_of_nonneg_left hm (by omega)
   omega
  have b2:(p:Int) * m≤3200:=by
   have:(p:Int) * m≤(p:Int) * 100:=Int.mul_le_mul_of_nonneg_left hm2 (by omega)
   omega
  have hne:ieq (Int.ofNat n) 0 = false:=by rw [show (0:Int) = Int.ofNat 0 from rfl,ieq_nat];exact beq_ne (by omega)
  have e1:wrapF .i64 (Int.mul (Int.ofNat p) m) = (p:Int) * m:=wrapI _ (by show _≤(p:Int) * m;omega) (by show (p:Int) * m≤_;omega)
  have e2:=rem2 hn0 (by omega) (x:=(p:Int) * m + b) (by omega) (by omega)
  unfold b49_1
  rw [ilt_nat,hlt,bb_true,show toN (Int.ofNat i) = some i from rfl,oo_some]
  show bb (an (Nat.blt i l.length) true) _ none = _
  rw [hlt,show an true true = true from rfl,bb_true]
  show oo (nthL (vL l) (i * 1)) none _ = _
  rw [vL_get hd,oo_some,show toI .i64 (IV (Int.ofNat p)) = some (Int.ofNat p) from rfl,oo_some,hne,show nt false = true from rfl,bb_true,bb_true,e1]
  show oo (toN (Int.tmod (wrapF .i64 (Int.add (Int.tmod (wrapF .i64 ((p:Int) * m + b)) (Int.ofNat n)) (Int.ofNat n))) (Int.ofNat n))) none _ = _
  rw [e2,show ∀ j,toN (Int.ofNat j) = some j from fun _=>rfl,oo_some,shl32 (by omega),aor32 (lt32 (by omega) hz) (lt32 (by omega) hk),hs,ih];rfl
theorem p49 (k:Nat) (args:List Value):puN (k + 1) 49 args = m49 (puN k) L args:=by kernel_rfl
theorem pu_moved (k : Nat) {n s : Nat} (hn0 : 0 < n) (hn : n ≤ 21) (hs : s < 2 ^ n) {m b : Int} (hm : -100 ≤ m) (hm2 : m ≤ 100) (hb : -100000000 ≤ b) (hb2 : b ≤ 100000000) :
 puN (k + 2) 49 [IV (Int.ofNat n),U s,IV m,IV b] = some (U (setOf (fun p=>plc n ((p:Int) * m + b)) (marksN n s) 0)):=by
 have hs32:=lt32 (by omega) hs
 have hl:=marks_len (n:=n) (s:=s)
 rw [p49]
 show oo (puN (k + 1) 48 [U s]) none _ = _
 rw [pu_marks48,oo_some,marks_more hs32 hs hn]
 exact moved49_loop (puN (k + 1)) L hn0 hn hm hm2 hb hb2 (fun x hx=>by have:=(mem_marks hs32).1 hx;omega) (by omega) _ L 0 0 (List.drop_zero) (by show _ < 1000000;omega) (by omega) (Nat.two_pow_pos n)
theorem pu_turned1 (k : Nat) {n s : Nat} (hn0 : 0 < n) (hn : n ≤ 21) (hs : s < 2 ^ n) {b : Int} (hb : -100000000 ≤ b) (hb2 : b ≤ 100000000) :
 puN (k + 2) 49 [IV (Int.ofNat n),U s,IV 1,IV b] = some (U (turnN n s (plc n b))):=by
 rw [pu_moved k hn0 hn hs (by omega) (by omega) hb hb2,←turn_moved hn0 (by omega) hs]
 simp only [Int.mul_one]
end Go.RgP
set_option maxRecDepth 100000
set_option maxHeartbeats 4000000
namespace Go.RgP
open Go Go.Sp Go.RgBM
theorem ret51 (pu:PureF) (L:Nat) (q:List Nat) (c:Nat):m51_0 pu L q.length c (vL q) = some (slv q):=by
 unfold m51_0
 rw [vL_closed,bb_true,fin_vL]
theorem apart_loop (k : Nat) {n s : Nat} (hn : n ≤ 21) (hs : s < 2 ^ n) : ∀ (j w d c : Nat) (q : List Nat), j < w → d + j = n → 0 < d → q.length = d - 1 → c / 2 = q.length → c % 2 = 0 →
 l51_1 (puN (k + 2)) L w (Int.ofNat n) (Int.ofNat s) q.length c (Int.ofNat d) (vL q) = some (slv (q ++ (List.range j).map fun i=>cntD n (marksN n s) (d + i)))
 | j,0,_,_,_,h,_,_,_,_,_=>by omega
 | 0, w + 1, d, c, q, _, hd, h0, _, _, _ => by
  show b51_1 (puN (k + 2)) L (l51_1 (puN (k + 2)) L w) (Int.ofNat n) (Int.ofNat s) q.length c (Int.ofNat d) (vL q) = _
  unfold b51_1
  rw [vL_closed,bb_true,ilt_nat,show Nat.blt d n = false from by rw [blt_eq];simp;omega,bb_false,ret51]
  show _ = some (slv (q ++ []))
  rw [List.append_nil]
 | j + 1, w + 1, d, c, q, hw, hd, h0, hq, hc, hc2 => by
  show b51_1 (puN (k + 2)) L (l51_1 (puN (k + 2)) L w) (Int.ofNat n) (Int.ofNat s) q.length c (Int.ofNat d) (vL q) = _
  have hs32:=lt32 (by omega) hs
  have hand:s &&& turnN n s d < 4294967296:=Nat.lt_of_le_of_lt Nat.and_le_left hs32
  unfold b51_1
  rw [vL_closed,bb_true,ilt_nat,show Nat.blt d n = true from by rw [blt_eq];simp;omega,bb_true]
  have hmv:puN (k + 2) 49 [(.int .i64 (Int.ofNat n)),(.int .u32 (Int.ofNat s)),(.int .i64 (1:Int)),(.int .i64 (Int.ofNat d))] = some (U (turnN n s d)):=by
   have:=pu_turned1 k (n:=n) (s:=s) (by omega) hn hs (b:=(d:Int)) (by omega) (by omega)
   rw [show plc n (d:Int) = d from by rw [plc_nat];exact Nat.mod_eq_of_lt (by omega)] at this
   exact this
  have hon:puN (k + 2) 50 [.int .u32 (Int.ofNat (s &&& turnN n s d))] = some (IV (Int.ofNat (cntD n (marksN n s) d))):=by
   have:=pu_ones (k + 1) hand
   rw [common_cnt (by omega) hs h0 (by omega) (by omega)] at this;exact this
  rw [hmv,oo_some]
  show oo (puN (k + 2) 50 [.int .u32 (aand .u32 (Int.ofNat s) (Int.ofNat (turnN n s d)))]) none _ = _
  rw [aand32 hs32 (lt32 (n:=n) (by omega) turn_lt),hon,oo_some]
  show bb (growC 1 8 q.length c 1 (vL q)) (bb (allL closed1 (appL (dropL 0 (vL q)) [.int .i64 (Int.ofNat (cntD n (marksN n s) d))])) (l51_1 (puN (k + 2)) L w (Int.ofNat n) (Int.ofNat s) (q.length + 1) (2 * (q.length + 1) + bb false 1 0) (wrapF .i64 (Int.add (Int.ofNat d) (1:Int))) (appL (dropL 0 (vL q)) [.int .i64 (Int.ofNat (cntD n (marksN n s) d))])) none) none = _
  rw [grow_vL (by omega) hc hc2,bb_true,vL_snoc,vL_closed,bb_true,wrapS d (by omega)]
  have ih:=apart_loop k hn hs j w (d + 1) (2 * (q.length + 1) + bb false 1 0) (q ++ [cntD n (marksN n s) d]) (by omega) (by omega) (by omega) (by simp;omega) (by simp) (by simp)
  rw [List.length_append,show [cntD n (marksN n s) d].length = 1 from rfl] at ih
  rw [ih,List.append_assoc,List.range_succ_eq_map,List.map_cons,List.map_map]
  congr 4
  show [cntD n (marksN n s) d] ++ _ = _
  rw [List.singleton_append,Nat.add_zero]
  congr 1
  apply List.map_congr_left
  intro i _
  show cntD n (marksN n s) (d + 1 + i) = cntD n (marksN n s) (d + (i + 1))
  rw [show d + 1 + i = d + (i + 1) by omega]
theorem p51 (k:Nat) (args:List Value):puN (k + 1) 51 args = m51 (puN k) L args:=by kernel_rfl
theorem pu_apart (k:Nat) {n s:Nat} (hn0:0 < n) (hn:n≤21) (hs:s < 2 ^ n):puN (k + 3) 51 [IV (Int.ofNat n),U s] = some (slv (dists n (marksN n s))):=by
 rw [p51]
 have h:=apart_loop k hn hs (n - 1) L 1 0 [] (by show n - 1 < 1000000;omega) (by omega) (by omega) rfl rfl rfl
 show l51_1 (puN (k + 2)) L L (Int.ofNat n) (Int.ofNat s) 0 0 (1:Int) (vL []) = _
 have e:(List.range (n - 1)).map (fun i=>cntD n (marksN n s) (1 + i)) = dists n (marksN n s):=by
  unfold dists
  apply List.map_congr_left
  intro i _
  rw [Nat.add_comm]
 rw [List.nil_append,e] at h
 exact h
end Go.RgP
set_option maxRecDepth 100000
set_option maxHeartbeats 4000000
namespace Go.RgP
open Go Go.Sp Go.RgBM
noncomputable def narV (n:Nat) (b:Bool):Value:=.tuple ⟨[.bool b,.agg ⟨[IV (Int.ofNat n)]⟩]⟩
def narB (l:List Nat):Bool:=l.all fun d=>Nat.ble d 1
theorem narrow_loop (pu : PureF) (L n : Nat) {l : List Nat} (hl : l.length < 900000) : ∀ (r : List Nat) (w i : Nat), l.drop i = r → r.length < w → i ≤ l.length →
 l10530_1 pu L w ⟨l.length,0,vL l⟩ (Int.ofNat l.length) (Int.ofNat i) (Int.ofNat n) = some (narV n (narB r))
 | _,0,_,_,h,_=>by omega
 | [], w + 1, i, hd, _, hi => by
  show b10530_1 pu L (l10530_1 pu L w) ⟨l.length,0,vL l⟩ (Int.ofNat l.length) (Int.ofNat i) (Int.ofNat n) = _
  have:l.length≤i:=List.drop_eq_nil_iff.1 hd
  unfold b10530_1
  rw [ilt_nat,show Nat.blt i l.length = false from by rw [blt_eq];simp;omega];rfl
 | d :: r, w + 1, i, hd, hw, hi => by
  show b10530_1 pu L (l10530_1 pu L w) ⟨l.length,0,vL l⟩ (Int.ofNat l.length) (Int.ofNat i) (Int.ofNat n) = _
  obtain ⟨hd2,hi2,_⟩:=drop_next hd
  have hr:(d :: r).length = r.length + 1:=rfl
  have hlt:Nat.blt i l.length = true:=by rw [blt_eq];simp;omega
  have ih:=narrow_loop pu L n hl r w (i + 1) hd2 (by omega) (by omega)
  unfold b10530_1
  rw [ilt_nat,hlt,bb_true,show toN (Int.ofNat i) = some i from rfl,oo_some]
  show bb (an (Nat.blt i l.length) true) (oo (nthL (vL l) (i * 1)) none _) none = _
  rw [hlt,show an true true = true from rfl,bb_true,vL_get hd,oo_some,show ∀ z,toI .i64 (IV z) = some z from fun _=>rfl,oo_some,wrapS i (by omega),ih,show ilt (1:Int) (Int.ofNat d) = Nat.blt 1 d from ilt_nat 1 d]
  unfold narB
  rw [List.all_cons,ble_eq,blt_eq]
  by_cases h:1 < d
  ·rw [decide_eq_true h,decide_eq_false (by omega)];rfl
  ·rw [decide_eq_false h,decide_eq_true (by omega)];rfl
theorem p10530 (k:Nat) (args:List Value):puN (k + 1) 10530 args = m10530 (puN k) L args:=by kernel_rfl
theorem narB_eq (n:Nat) (l:List Nat):narB (dists n l) = Nat.beq (firstD n l) 0:=by
 rw [Bool.eq_iff_iff,beq_dec,decide_eq_true_eq,firstD_zero]
 unfold narB dists
 rw [List.all_map,List.all_eq_true]
 constructor
 ·intro h d d1 d2
  have:=h (d - 1) (List.mem_range.2 (by omega))
  have:Nat.ble (cntD n l (d - 1 + 1)) 1 = true:=this
  rw [show d - 1 + 1 = d by omega] at this
  exact Nat.le_of_ble_eq_true this
 ·intro h i hi
  have:=List.mem_range.1 hi
  exact Nat.ble_eq_true_of_le (h (i + 1) (by omega) (by omega))
theorem pu_narrowB (k:Nat) {n s:Nat} (hn0:0 < n) (hn:n≤21) (hs:s < 2 ^ n):puN (k + 4) 10530 [U s,.pointer (some ⟨0,0,none⟩),.agg ⟨[IV (Int.ofNat n)]⟩] = some (narV n (Nat.beq (firstD n (marksN n s)) 0)):=by
 rw [p10530]
 show oo (puN (k + 3) 51 [IV (Int.ofNat n),U s]) none _ = _
 rw [pu_apart k hn0 hn hs,oo_some,←narB_eq]
 have hl:=dists_len n (marksN n s)
 exact narrow_loop (puN (k + 3)) L n (by omega) (dists n (marksN n s)) L 0 List.drop_zero (by show _ < 1000000;omega) (by omega)
def delN (s p:Nat):Nat:=Nat.xor s (Nat.land s (2 ^ p))
theorem delN_bit (s p q:Nat):(delN s p).testBit q = (s.testBit q && !decide (p = q)):=by
 show (s ^^^ (s &&& 2 ^ p)).testBit q = _
 rw [Nat.testBit_xor,Nat.testBit_and,Nat.testBit_two_pow]
 cases s.testBit q <;> cases decide (p = q) <;> rfl
theorem delN_lt {n s p:Nat} (hs:s < 2 ^ n):delN s p < 2 ^ n:=by
 refine Nat.lt_pow_two_of_testBit _ fun i hi=>?_
 rw [delN_bit,Nat.testBit_lt_two_pow (Nat.lt_of_lt_of_le hs (Nat.pow_le_pow_right (by omega) hi))];rfl
theorem andNot32 {a b:Nat} (ha:a < 4294967296) (hb:b < 4294967296):aandNot .u32 (Int.ofNat a) (Int.ofNat b) = Int.ofNat (Nat.xor a (Nat.land a b)):=by
 show bb (an (Nat.ble a 4294967295) (Nat.ble b 4294967295)) (Int.ofNat (Nat.xor a (Nat.land a b))) _ = _
 rw [Nat.ble_eq_true_of_le (show a≤4294967295 by omega),Nat.ble_eq_true_of_le (show b≤4294967295 by omega)];rfl
theorem del_marks {n s p:Nat} (hn:n≤21) (hs:s < 2 ^ n):(marksN n (delN s p)).Sublist (marksN n s):=by
 have h1:=lt32 (by omega) hs
 have h2:=lt32 (n:=n) (by omega) (delN_lt (p:=p) hs)
 have e:marksN n (delN s p) = (marksN n s).filter fun x=>!decide (p = x):=by
  refine sorted_ext (marks_sorted h2) (List.Pairwise.sublist List.filter_sublist (marks_sorted h1)) fun x=>?_
  rw [mem_marks h2,List.mem_filter,mem_marks h1,delN_bit,Bool.and_eq_true]
  exact ⟨fun h=>⟨⟨h.1,h.2.1⟩,h.2.2⟩,fun h=>⟨h.1.1,h.1.2,h.2⟩⟩
 rw [e];exact List.filter_sublist
theorem room_tail (pu : PureF) (hpu : ∀ g, Nat.beq g 14 = false → pu g = puN 10 g) (h14 : pu 14 [] = some (.bool true)) {n out : Nat} {l : List Nat} (hg : Good n l) (h0 : firstD n l = 0) (ho : out < 256) :
 m9_3 pu L (Int.ofNat out) (Int.ofNat (bitsOf l)) (Int.ofNat l.length) false (Int.ofNat n) = some (.bool true):=by
 have hlt:=bitsOf_lt hg.lt
 have h32:=hg.lt32
 have hn21:=hg.le
 have hm21:marksN 21 (bitsOf l) = l:=by rw [marks_more h32 hlt hg.le];exact hg.marks
 unfold m9_3
 rw [bb_false,show ilt (0:Int) (Int.ofNat l.length) = Nat.blt 0 l.length from ilt_nat 0 _,show ieq (Int.ofNat l.length) 0 = Nat.beq l.length 0 from ieq_nat _ 0]
 cases hc:Nat.blt 0 l.length with
 | false =>
  rw [bb_false,h14];rfl
 | true =>
  have hk:0 < l.length:=by rw [blt_eq] at hc;simpa using hc
  have hmod:out % l.length < l.length:=Nat.mod_lt _ hk
  have e1:Int.tmod (wrapF .i64 (Int.ofNat out)) (Int.ofNat l.length) = Int.ofNat (out % l.length):=by
   rw [wrapI (Int.ofNat out) (by show (-9223372036854775808:Int)≤(out:Int);omega) (by show (out:Int)≤9223372036854775807;omega)]
   show Int.tmod (out:Int) (l.length:Int) = _
   rw [Int.tmod_eq_emod_of_nonneg (by omega),←Int.natCast_emod];rfl
  obtain ⟨p,hp⟩:∃ p,l[out % l.length]? = some p:=⟨l[out % l.length],by simp [hmod]⟩
  have hpm:p ∈ l:=List.mem_of_getElem? hp
  have hpn:=hg.lt p hpm
  have hpow:2 ^ p < 4294967296:=Nat.lt_of_lt_of_le (Nat.pow_lt_pow_right (by omega) (show p < 31 by omega)) (by decide)
  have hcell:nthL (vL l) (out % l.length * 1) = some (IV (Int.ofNat p)):=by
   rw [nthL_eq,Nat.mul_one];unfold vL
   rw [List.getElem?_map,hp];rfl
  have hd:=delN_lt (p:=p) hlt
  have hd32:=lt32 (n:=n) (by omega) hd
  have hsub:=del_marks (p:=p) hn21 hlt
  rw [hg.marks] at hsub
  have hgd:Good n (marksN n (delN (bitsOf l) p)):=⟨hg.pos,hg.le,Nat.le_trans hsub.length_le hg.few,marks_sorted hd32,fun x hx=>((mem_marks hd32).1 hx).1⟩
  rw [bb_true,beq_ne (by omega),show nt false = true from rfl,bb_true,e1,show ∀ j,toN (Int.ofNat j) = some j from fun _=>rfl,oo_some]
  show oo (pu 48 [U (bitsOf l)]) none _ = _
  rw [hpu 48 rfl,show (10:Nat) = 9 + 1 from rfl,pu_marks48,hm21,oo_some]
  show bb (an (Nat.blt (out % l.length) l.length) true) (oo (nthL (vL l) (out % l.length * 1)) none _) none = _
  rw [show Nat.blt (out % l.length) l.length = true from by rw [blt_eq];simpa using hmod,show an true true = true from rfl,bb_true,hcell,oo_some,show ∀ z,toI .i64 (IV z) = some z from fun _=>rfl,oo_some,show ∀ j,toN (Int.ofNat j) = some j from fun _=>rfl,oo_some,shl32 (by omega),andNot32 h32 hpow]
  show oo (pu 47 [IV (Int.ofNat n),U (delN (bitsOf l) p)]) none _ = _
  rw [hpu 47 rfl,show (10:Nat) = 8 + 2 from rfl,pu_sealed,marks_more hd32 hd hn21,oo_some]
  show oo (pu 29 [seaF n 0 (marksN n (delN (bitsOf l) p))]) none _ = _
  rw [hpu 29 rfl,show (10:Nat) = 5 + 5 from rfl,pu_narrow 5 0 hgd,firstD_mono hsub h0,oo_some]
  show oo (pu 14 []) none _ = _
  rw [h14];rfl
theorem room_walk (pu : PureF) (hpu : ∀ g, Nat.beq g 14 = false → pu g = puN 10 g) (h14 : pu 14 [] = some (.bool true)) {n out : Nat} {l : List Nat} (hg : Good n l) (h0 : firstD n l = 0) (ho : out < 256) : ∀ (j w p c : Nat) (q : List Nat), j < w → p + j = n → q.length ≤ p → c / 2 = q.length → c % 2 = 0 → q ++ roomF n (bitsOf l) j p = roomN n (bitsOf l) →
 l9_5 pu L w (Int.ofNat out) (Int.ofNat (bitsOf l)) ⟨(roomN n (bitsOf l)).length,0,vL (roomN n (bitsOf l))⟩ 0 (Int.ofNat l.length) q.length c (Int.ofNat n) (Int.ofNat p) (Int.ofNat n) (vL q) = some (.bool true)
 | j,0,_,_,_,h,_,_,_,_,_=>by omega
 | 0, w + 1, p, c, q, _, hk, _, _, _, he => by
  show b9_5 pu L (l9_5 pu L w) (Int.ofNat out) (Int.ofNat (bitsOf l)) ⟨(roomN n (bitsOf l)).length,0,vL (roomN n (bitsOf l))⟩ 0 (Int.ofNat l.length) q.length c (Int.ofNat n) (Int.ofNat p) (Int.ofNat n) (vL q) = _
  have he:q = roomN n (bitsOf l):=by rw [←he];show _ = q ++ [];rw [List.append_nil]
  have hlen:q.length≤n:=by rw [he];exact roomF_len n (bitsOf l) n 0
  have hn:=hg.le
  unfold b9_5
  rw [vL_closed,bb_true,ilt_nat,show Nat.blt p n = false from by rw [blt_eq];simp;omega,bb_false]
  unfold m9_2
  have e1:takeL (q.length * 1) (dropL 0 (vL q)) = vL q:=by
   rw [takeL_eq,dropL_eq,List.drop_zero,Nat.mul_one,←vL_len q,List.take_length]
  rw [e1,vL_closed,len_eq,vL_len,show Nat.ble (0 + q.length * 1) q.length = true from Nat.ble_eq_true_of_le (by omega)]
  show oo (pu 10230 [slv (roomN n (bitsOf l)),slv q]) none _ = _
  rw [he,hpu 10230 rfl,show (10:Nat) = 9 + 1 from rfl,pu_same2N 9 (by rw [←he];omega),decide_eq_true rfl,oo_some]
  exact room_tail pu hpu h14 hg h0 ho
 | j + 1, w + 1, p, c, q, hw, hk, hq, hc, hc2, he => by
  show b9_5 pu L (l9_5 pu L w) (Int.ofNat out) (Int.ofNat (bitsOf l)) ⟨(roomN n (bitsOf l)).length,0,vL (roomN n (bitsOf l))⟩ 0 (Int.ofNat l.length) q.length c (Int.ofNat n) (Int.ofNat p) (Int.ofNat n) (vL q) = _
  have hs:=bitsOf_lt hg.lt
  have hs32:=hg.lt32
  have hn:=hg.le
  have hn0:=hg.pos
  have he':q ++ (bif freeB n (bitsOf l) p then p :: roomF n (bitsOf l) j (p + 1) else roomF n (bitsOf l) j (p + 1)) = roomN n (bitsOf l):=he
  have hs':wrapF .i64 (Int.add (Int.ofNat p) 1) = Int.ofNat (p + 1):=wrapS p (by omega)
  have hstay:q ++ roomF n (bitsOf l) j (p + 1) = roomN n (bitsOf l)→m9_7 pu L (l9_5 pu L w) (Int.ofNat out) (Int.ofNat (bitsOf l)) ⟨(roomN n (bitsOf l)).length,0,vL (roomN n (bitsOf l))⟩ 0 (Int.ofNat l.length) q.length c (Int.ofNat p) (Int.ofNat n) (Int.ofNat p) false (Int.ofNat n) (vL q) = some (.bool true):=fun e=>by
   unfold m9_7 m9_6
   rw [bb_false,vL_closed,bb_true,bb_true,hs']
   exact room_walk pu hpu h14 hg h0 ho j w (p + 1) c q (by omega) (by omega) (by omega) hc hc2 e
  have hgo:q ++ (p :: roomF n (bitsOf l) j (p + 1)) = roomN n (bitsOf l)→m9_7 pu L (l9_5 pu L w) (Int.ofNat out) (Int.ofNat (bitsOf l)) ⟨(roomN n (bitsOf l)).length,0,vL (roomN n (bitsOf l))⟩ 0 (Int.ofNat l.length) q.length c (Int.ofNat p) (Int.ofNat n) (Int.ofNat p) true (Int.ofNat n) (vL q) = some (.bool true):=fun e=>by
   have ih:=room_walk pu hpu h14 hg h0 ho j w (p + 1) (2 * (q.length + 1) + bb false 1 0) (q ++ [p]) (by omega) (by omega) (by simp;omega) (by simp) (by simp) (by rw [List.append_assoc];exact e)
   rw [List.length_append,show [p].length = 1 from rfl] at ih
   unfold m9_7 m9_6
   rw [bb_true,grow_vL (by omega) hc hc2,bb_true,vL_snoc,vL_closed,bb_true,bb_true,hs']
   exact ih
  unfold b9_5
  rw [vL_closed,bb_true,ilt_nat,show Nat.blt p n = true from by rw [blt_eq];simp;omega,bb_true,show ∀ i,toN (Int.ofNat i) = some i from fun _=>rfl,oo_some]
  have h2:bitsOf l / 2 ^ p < 4294967296:=Nat.lt_of_le_of_lt (Nat.div_le_self _ _) hs32
  have hbit:ieq (aand .u32 (shrI .u32 (Int.ofNat (bitsOf l)) p) (1:Int)) (0:Int) = !(bitsOf l).testBit p:=by
   rw [shr32 hs32,show (1:Int) = Int.ofNat 1 from rfl,aand32 h2 (by omega),show (0:Int) = Int.ofNat 0 from rfl,ieq_nat,Nat.and_one_is_mod,Nat.testBit_eq_decide_div_mod_eq,beq_dec]
   by_cases h:bitsOf l / 2 ^ p % 2 = 1
   ·rw [decide_eq_true h,h];rfl
   ·have : bitsOf l / 2 ^ p % 2 = 0 := by omega
    rw [decide_eq_false h,this];rfl
  rw [hbit,bit_shl hs32 (by omega)]
  unfold freeB at he'
  cases hb:(bitsOf l).testBit p with
  | true =>
   rw [hb] at he'
   exact hstay he'
  | false =>
   rw [hb] at he'
   have hnar:=pu_narrowB 6 (n:=n) (s:=bitsOf l ||| 2 ^ p) hn0 hn (or_lt32 hn hs (by omega))
   show oo (pu 10530 [U (bitsOf l ||| 2 ^ p),.pointer (some ⟨0,0,none⟩),.agg ⟨[IV (Int.ofNat n)]⟩]) none _ = _
   rw [hpu 10530 rfl,hnar,oo_some]
   show m9_7 pu L (l9_5 pu L w) (Int.ofNat out) (Int.ofNat (bitsOf l)) ⟨(roomN n (bitsOf l)).length,0,vL (roomN n (bitsOf l))⟩ 0 (Int.ofNat l.length) q.length c (Int.ofNat p) (Int.ofNat n) (Int.ofNat p) (Nat.beq (firstD n (marksN n (bitsOf l ||| 2 ^ p))) 0) (Int.ofNat n) (vL q) = _
   cases hf:Nat.beq (firstD n (marksN n (bitsOf l ||| 2 ^ p))) 0 with
   | true=>rw [hf] at he';exact hgo he'
   | false=>rw [hf] at he';exact hstay he'
theorem room_law (pu : PureF) (hpu : ∀ g, Nat.beq g 14 = false → pu g = puN 10 g) (h14 : pu 14 [] = some (.bool true)) {p b out : Nat} (hp : p < 256) (hb : b < 4294967296) (ho : out < 256) :
 m9 pu L [.agg ⟨[.int .u8 (Int.ofNat p),.int .u32 (Int.ofNat b)]⟩,.int .u8 (Int.ofNat out)] = some (.bool true):=by
 obtain ⟨l,hg,h46⟩:=pu_stamp 8 (most:=21) (by omega) (by omega) hp hb
 generalize hn:1 + p % 21 = n at *
 have hn0:=hg.pos
 have hn21:=hg.le
 have hlt:=bitsOf_lt hg.lt
 have h32:=hg.lt32
 have hm21:marksN 21 (bitsOf l) = l:=by rw [marks_more h32 hlt hg.le];exact hg.marks
 have h47:pu 47 [IV (Int.ofNat n),U (bitsOf l)] = some (seaV n l):=by
  have:=pu_sealed 8 n (bitsOf l)
  rw [hm21] at this;rw [hpu 47 rfl];exact this
 have h44:pu 44 [seaV n l] = some (roomV n l):=by rw [hpu 44 rfl];exact pu_room 5 0 hg
 have h50:pu 50 [U (bitsOf l)] = some (IV (Int.ofNat l.length)):=by
  have:=pu_ones 9 h32
  rw [marks_more h32 hlt (by omega),hg.marks] at this;rw [hpu 50 rfl];exact this
 have hnar:pu 10530 [U (bitsOf l),.pointer (some ⟨0,0,none⟩),.agg ⟨[IV (Int.ofNat n)]⟩] = some (narV n (Nat.beq (firstD n l) 0)):=by
  have:=pu_narrowB 6 (n:=n) (s:=bitsOf l) hn0 hn21 hlt
  rw [hg.marks] at this;rw [hpu 10530 rfl];exact this
 show m9_ pu L (Int.ofNat p) (Int.ofNat b) (Int.ofNat out) = _
 unfold m9_
 show oo (pu 46 [.agg ⟨[.int .u8 (Int.ofNat p),.int .u32 (Int.ofNat b)]⟩,IV (Int.ofNat 21)]) none _ = _
 rw [hpu 46 rfl,h46,oo_some]
 show oo (pu 47 [IV (Int.ofNat n),U (bitsOf l)]) none _ = _
 rw [h47,oo_some]
 show oo (pu 44 [seaV n l]) none _ = _
 rw [h44,oo_some]
 unfold roomV
 cases h6:Nat.beq l.length 6 with
 | true =>
  have h6':l.length = 6:=Nat.eq_of_beq_eq_true h6
  show oo (pu 50 [U (bitsOf l)]) none _ = _
  rw [h50,h6',oo_some]
  show oo (pu 14 []) none _ = _
  rw [h14];rfl
 | false =>
  cases hf:Nat.blt 0 (firstD n l) with
  | true =>
   have hf':Nat.beq (firstD n l) 0 = false:=by rw [blt_eq] at hf;exact beq_ne (by simp at hf;omega)
   show oo (pu 50 [U (bitsOf l)]) none _ = _
   rw [h50,oo_some]
   show bb (ieq (Int.ofNat l.length) (Int.ofNat 6)) _ (oo (pu 10530 [U (bitsOf l),.pointer (some ⟨0,0,none⟩),.agg ⟨[IV (Int.ofNat n)]⟩]) none _) = _
   rw [ieq_nat,h6,bb_false,hnar,hf',oo_some]
   show oo (pu 14 []) none _ = _
   rw [h14];rfl
  | false =>
   have h0:firstD n l = 0:=by rw [blt_eq] at hf;simpa using hf
   show oo (pu 50 [U (bitsOf l)]) none _ = _
   rw [h50,oo_some]
   show bb (ieq (Int.ofNat l.length) (Int.ofNat 6)) _ (oo (pu 10530 [U (bitsOf l),.pointer (some ⟨0,0,none⟩),.agg ⟨[IV (Int.ofNat n)]⟩]) none _) = _
   rw [ieq_nat,h6,bb_false,hnar,h0,oo_some]
   exact room_walk pu hpu h14 hg h0 ho n L 0 0 [] (by show n < 1000000;omega) (by omega) (by simp) rfl rfl rfl
end Go.RgP
