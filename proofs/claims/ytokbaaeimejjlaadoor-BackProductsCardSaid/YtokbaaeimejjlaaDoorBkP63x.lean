/- Words for the plain laws of backs. -/
import Derived.Test.YtokbaaeimejjlaaDoorBkPNodesx
import Derived.Test.YtokbaaeimejjlaaDoorSpMorex
import Derived.Test.YtokbaaeimejjlaaDoorBkPPu
import Derived.KernelRfl

namespace Go.BkQ
open Go Go.Sp
theorem ilt_nat (a b:Nat):ilt (Int.ofNat a) (Int.ofNat b) = decide (a < b):=by
 rw [ilt_eq];exact decide_eq_decide.2 Int.ofNat_lt
theorem ieq_dec (a b:Int):ieq a b = decide (a = b):=by rw [ieq_eq];rfl
theorem ilt_dec (a b:Int):ilt a b = decide (a < b):=ilt_eq a b
theorem getS {l:List Int} {i:Nat} {b:Int} {r:List Int} (h:l.drop i = b :: r):nthL (l.map I) (i * 1) = some (I b):=by
 rw [nthL_eq,Nat.mul_one]
 have:l[i]? = some b:=by
  have:=congrArg List.head? h
  rw [List.head?_drop] at this;exact this
 rw [List.getElem?_map,this];rfl
theorem getS' {l:List Int} {i:Nat} (h:i < l.length):nthL (l.map I) (i * 1) = some (I l[i]):=by
 rw [nthL_eq,Nat.mul_one,getI l i h]
theorem dropS {l:List Int} {i:Nat} {b:Int} {r:List Int} (h:l.drop i = b :: r):l.drop (i + 1) = r∧i < l.length∧b ∈ l:=by
 refine ⟨?_,?_,?_⟩
 ·rw [←List.drop_drop,h];rfl
 ·have := congrArg List.length h
  simp at this;omega
 ·have : b ∈ l.drop i := by rw [h]; exact List.mem_cons_self
  exact List.mem_of_mem_drop this
theorem drop_end {l:List Int} {i:Nat} (h:l.drop i = []):l.length≤i:=List.drop_eq_nil_iff.1 h
def pick (x:List Int) (row:List Nat):List Int:=row.map fun k=>x.getD k 0
theorem closedS (l:List Int):allL closed1 (l.map I) = true:=by rw [allL_eq];exact closedI l
theorem zeroS (n:Nat):zeroRow ([(.int .i64 (0:Int))]:List Value) n = (List.replicate n (0:Int)).map I:=by
 apply List.ext_getElem?
 intro i
 by_cases h:i < n
 ·rw [zeroRow_get _ (by simp) _ _ (by simpa using h)]
  simp [h,Nat.mod_one]
 ·rw [List.getElem?_eq_none (by rw [zeroRow_length];simp;omega),List.getElem?_eq_none (by simp;omega)]
theorem setL_at {α : Type} (x : α) : ∀ (i : Nat) (l : List α), i < l.length → setL [x] i l = l.set i x
 | 0,a :: l,_=>by show appL [x] (dropL (len [x]) (a :: l)) = _;simp [len_eq]
 | i + 1, a :: l, h => by
  show a :: setL [x] i l = _
  rw [setL_at x i l (by simpa using h)];rfl
theorem setI (z:Int) (i:Nat) (l:List Int) (h:i < l.length):setL ([(.int .i64 z)]:List Value) (0 + i * 1) (l.map I) = (l.set i z).map I:=by
 rw [Nat.zero_add,Nat.mul_one,setL_at _ _ _ (by simpa using h),List.map_set]
theorem finS (l:List Int) {n:Nat} (h:n = l.length):bb (an (Nat.ble (0 + n * 1) (len (l.map I))) (allL closed1 (takeL (n * 1) (dropL 0 (l.map I))))) (some (Sl.v 1 (Sl.mk n 0 (takeL (n * 1) (dropL 0 (l.map I)))))) none = some (S 0 l):=by
 have e1:takeL (n * 1) (dropL 0 (l.map I)) = l.map I:=by
  rw [takeL_eq,dropL_eq,List.drop_zero,Nat.mul_one,h,←List.length_map (f:=I),List.take_length]
 rw [e1,closedS,len_eq,List.length_map,show Nat.ble (0 + n * 1) l.length = true from Nat.ble_eq_true_of_le (by omega),h];rfl
theorem growS {q:List Int} {c:Nat} (hq:q.length≤2000) (hc:c / 2 = q.length) (hc2:c % 2 = 0):growC 1 8 q.length c 1 (q.map I) = true:=by
 unfold growC roomy
 rw [len_eq,List.length_map,hc,hc2]
 rw [show Nat.ble ((4 * (q.length + 1) + 4096) * 8) 281474976710656 = true from Nat.ble_eq_true_of_le (by omega),show Nat.ble (q.length + 1) q.length = false from by rw [ble_eq];simp,show Nat.ble (0 + q.length * 1) q.length = true from Nat.ble_eq_true_of_le (by omega),show Nat.beq (0 + q.length * 1) q.length = true from by simp]
 rfl
theorem snocS (q:List Int) (z:Int):appL (dropL 0 (q.map I)) [(.int .i64 z)] = (q ++ [z]).map I:=by
 rw [appL_eq,dropL_eq,List.drop_zero,List.map_append];rfl
end Go.BkQ
set_option maxRecDepth 100000
set_option maxHeartbeats 4000000
namespace Go.BkQ
open Go Go.Sp Go.BkPM
theorem same_loop (pu : PureF) (M : Nat) {a b : List Int} (hab : a.length = b.length) (ha : a.length < 900000) (f1 f2 : Nat) : ∀ (r r' : List Int) (w i : Nat), a.drop i = r → b.drop i = r' → r.length < w → i ≤ a.length →
 l12_1 pu M w ⟨a.length,f1,a.map I⟩ ⟨b.length,f2,b.map I⟩ (Int.ofNat i) = some (.bool (decide (r = r')))
 | _,_,0,_,_,_,h,_=>by omega
 | [], r', w + 1, i, hd, hd', _, hi => by
  show b12_1 pu M (l12_1 pu M w) ⟨a.length,f1,a.map I⟩ ⟨b.length,f2,b.map I⟩ (Int.ofNat i) = _
  have h1:=drop_end hd
  have h2:r' = []:=by rw [←hd'];exact List.drop_eq_nil_iff.2 (by omega)
  subst h2
  unfold b12_1
  show bb (ilt (Int.ofNat i) (Int.ofNat a.length)) _ _ = _
  rw [ilt_nat,decide_eq_false (by omega)];rfl
 | x :: r, r', w + 1, i, hd, hd', hw, hi => by
  show b12_1 pu M (l12_1 pu M w) ⟨a.length,f1,a.map I⟩ ⟨b.length,f2,b.map I⟩ (Int.ofNat i) = _
  obtain ⟨hd2,hi2,_⟩:=dropS hd
  cases r' with
  | nil=>have h1:=drop_end hd';omega
  | cons y r' =>
   obtain ⟨hd3,_,_⟩:=dropS hd'
   have hr:(x :: r).length = r.length + 1:=rfl
   have hlt:Nat.blt i a.length = true:=by rw [blt_eq];simp;omega
   have hlt2:Nat.blt i b.length = true:=by rw [blt_eq];simp;omega
   have ih:=same_loop pu M hab ha f1 f2 r r' w (i + 1) hd2 hd3 (by omega) (by omega)
   unfold b12_1
   show bb (ilt (Int.ofNat i) (Int.ofNat a.length)) (oo (toN (Int.ofNat i)) none fun k=>bb (an (Nat.blt k a.length) true) (oo (nthL (a.map I) (k * 1)) none fun v=>oo (toI .i64 v) none fun x1=>bb (an (Nat.blt k b.length) true) (oo (nthL (b.map I) (k * 1)) none fun v=>oo (toI .i64 v) none fun x2=>_) none) none) _ = _
   rw [ilt_nat,decide_eq_true hi2,bb_true,toN_mk,oo_some,hlt,show an true true = true from rfl,bb_true,getS hd,oo_some,toI_mk,oo_some,hlt2,show an true true = true from rfl,bb_true,getS hd',oo_some,toI_mk,oo_some,wrapS i (by omega),ih,ieq_dec]
   by_cases h:x = y
   ·subst h;simp
   ·have hc : ¬ (x :: r = y :: r') := fun e => h (by injection e)
    rw [decide_eq_false h,decide_eq_false hc];rfl
theorem p12 (k:Nat) (args:List Value):puN (k + 1) 12 args = m12 (puN k) L args:=by kernel_rfl
theorem pu_same (k f1 f2:Nat) {a b:List Int} (ha:a.length < 900000):puN (k + 1) 12 [S f1 a,S f2 b] = some (.bool (decide (a = b))):=by
 rw [p12]
 show bb (nt (ieq (Int.ofNat a.length) (Int.ofNat b.length))) (some (.bool false)) (l12_1 (puN k) L L ⟨a.length,f1,a.map I⟩ ⟨b.length,f2,b.map I⟩ (0:Int)) = _
 rw [ieq_dec]
 by_cases h:a.length = b.length
 ·rw [decide_eq_true (congrArg Int.ofNat h), show nt true = false from rfl, bb_false]
  exact same_loop (puN k) L h ha f1 f2 a b L 0 (List.drop_zero) (List.drop_zero) (by show _ < 1000000;omega) (by omega)
 ·have : ¬ a = b := fun e => h (by rw [e])
  rw [decide_eq_false (fun e=>h (Int.ofNat.inj e)),decide_eq_false this];rfl
def minI : Int → List Int → Int
 | m,[]=>m
 | m,x :: r=>minI (if x < m then x else m) r
def maxI : Int → List Int → Int
 | m,[]=>m
 | m,x :: r=>maxI (if m < x then x else m) r
theorem min_loop (pu : PureF) (M : Nat) {a : List Int} (ha : a.length < 900000) (f : Nat) : ∀ (r : List Int) (w i : Nat) (m : Int), a.drop i = r → r.length < w → l68_2 pu M w ⟨a.length, f, a.map I⟩ m (Int.ofNat i) = some (I (minI m r))
 | _,0,_,_,_,h=>by omega
 | [], w + 1, i, m, hd, _ => by
  show b68_2 pu M (l68_2 pu M w) ⟨a.length,f,a.map I⟩ m (Int.ofNat i) = _
  have h1:=drop_end hd
  unfold b68_2
  show bb (ilt (Int.ofNat i) (Int.ofNat a.length)) _ _ = _
  rw [ilt_nat,decide_eq_false (by omega)];rfl
 | x :: r, w + 1, i, m, hd, hw => by
  show b68_2 pu M (l68_2 pu M w) ⟨a.length,f,a.map I⟩ m (Int.ofNat i) = _
  obtain ⟨hd2,hi2,_⟩:=dropS hd
  have hr:(x :: r).length = r.length + 1:=rfl
  have hlt:Nat.blt i a.length = true:=by rw [blt_eq];simp;omega
  have ih:=min_loop pu M ha f r w (i + 1) (bb (ilt x m) x m) hd2 (by omega)
  unfold b68_2
  show bb (ilt (Int.ofNat i) (Int.ofNat a.length)) (oo (toN (Int.ofNat i)) none fun k=>bb (an (Nat.blt k a.length) true) (oo (nthL (a.map I) (k * 1)) none fun v=>oo (toI .i64 v) none fun x1=>l68_2 pu M w ⟨a.length,f,a.map I⟩ (bb (ilt x1 m) x1 m) (wrapF .i64 (Int.add (Int.ofNat k) (1:Int)))) none) _ = _
  rw [ilt_nat,decide_eq_true hi2,bb_true,toN_mk,oo_some,hlt,show an true true = true from rfl,bb_true,getS hd,oo_some,toI_mk,oo_some,wrapS i (by omega),ih]
  show some (I (minI (bb (ilt x m) x m) r)) = some (I (minI (if x < m then x else m) r))
  rw [ilt_dec]
  by_cases h:x < m
  ·rw [decide_eq_true h,if_pos h];rfl
  ·rw [decide_eq_false h,if_neg h];rfl
theorem max_loop (pu : PureF) (M : Nat) {a : List Int} (ha : a.length < 900000) (f : Nat) : ∀ (r : List Int) (w i : Nat) (m : Int), a.drop i = r → r.length < w → l69_2 pu M w ⟨a.length, f, a.map I⟩ m (Int.ofNat i) = some (I (maxI m r))
 | _,0,_,_,_,h=>by omega
 | [], w + 1, i, m, hd, _ => by
  show b69_2 pu M (l69_2 pu M w) ⟨a.length,f,a.map I⟩ m (Int.ofNat i) = _
  have h1:=drop_end hd
  unfold b69_2
  show bb (ilt (Int.ofNat i) (Int.ofNat a.length)) _ _ = _
  rw [ilt_nat,decide_eq_false (by omega)];rfl
 | x :: r, w + 1, i, m, hd, hw => by
  show b69_2 pu M (l69_2 pu M w) ⟨a.length,f,a.map I⟩ m (Int.ofNat i) = _
  obtain ⟨hd2,hi2,_⟩:=dropS hd
  have hr:(x :: r).length = r.length + 1:=rfl
  have hlt:Nat.blt i a.length = true:=by rw [blt_eq];simp;omega
  have ih:=max_loop pu M ha f r w (i + 1) (bb (ilt m x) x m) hd2 (by omega)
  unfold b69_2
  show bb (ilt (Int.ofNat i) (Int.ofNat a.length)) (oo (toN (Int.ofNat i)) none fun k=>bb (an (Nat.blt k a.length) true) (oo (nthL (a.map I) (k * 1)) none fun v=>oo (toI .i64 v) none fun x1=>l69_2 pu M w ⟨a.length,f,a.map I⟩ (bb (ilt m x1) x1 m) (wrapF .i64 (Int.add (Int.ofNat k) (1:Int)))) none) _ = _
  rw [ilt_nat,decide_eq_true hi2,bb_true,toN_mk,oo_some,hlt,show an true true = true from rfl,bb_true,getS hd,oo_some,toI_mk,oo_some,wrapS i (by omega),ih]
  show some (I (maxI (bb (ilt m x) x m) r)) = some (I (maxI (if m < x then x else m) r))
  rw [ilt_dec]
  by_cases h:m < x
  ·rw [decide_eq_true h,if_pos h];rfl
  ·rw [decide_eq_false h,if_neg h];rfl
theorem p68 (k:Nat) (args:List Value):puN (k + 1) 68 args = m68 (puN k) L args:=by kernel_rfl
theorem p69 (k:Nat) (args:List Value):puN (k + 1) 69 args = m69 (puN k) L args:=by kernel_rfl
theorem pu_min (k f:Nat) {x:Int} {r:List Int} (ha:(x :: r).length < 900000):puN (k + 1) 68 [S f (x :: r)] = some (I (minI x r)):=by
 rw [p68]
 show bb (ilt (Int.ofNat (r.length + 1)) (Int.ofNat 1)) none (bb (an (Nat.blt 0 (r.length + 1)) true) (l68_2 (puN k) L L ⟨(x :: r).length,f,(x :: r).map I⟩ x (Int.ofNat 1)) none) = _
 rw [ilt_nat,decide_eq_false (by omega),bb_false,show Nat.blt 0 (r.length + 1) = true from by rw [blt_eq];simp,show an true true = true from rfl,bb_true]
 exact min_loop (puN k) L ha f r L 1 x rfl (by have h:(x :: r).length = r.length + 1:=rfl;show _ < 1000000;omega)
theorem pu_max (k f:Nat) {x:Int} {r:List Int} (ha:(x :: r).length < 900000):puN (k + 1) 69 [S f (x :: r)] = some (I (maxI x r)):=by
 rw [p69]
 show bb (ilt (Int.ofNat (r.length + 1)) (Int.ofNat 1)) none (bb (an (Nat.blt 0 (r.length + 1)) true) (l69_2 (puN k) L L ⟨(x :: r).length,f,(x :: r).map I⟩ x (Int.ofNat 1)) none) = _
 rw [ilt_nat,decide_eq_false (by omega),bb_false,show Nat.blt 0 (r.length + 1) = true from by rw [blt_eq];simp,show an true true = true from rfl,bb_true]
 exact max_loop (puN k) L ha f r L 1 x rfl (by have h:(x :: r).length = r.length + 1:=rfl;show _ < 1000000;omega)
theorem minI_ge {b : Int} : ∀ (r : List Int) (m : Int), b ≤ m → (∀ x ∈ r, b ≤ x) → b ≤ minI m r
 | [],_,h,_=>h
 | x :: r, m, h, hx => by
  show b≤minI (if x < m then x else m) r
  refine minI_ge r _ ?_ fun y hy=>hx y (List.mem_cons_of_mem _ hy)
  split
  ·exact hx x List.mem_cons_self
  ·exact h
theorem maxI_lt {b : Int} : ∀ (r : List Int) (m : Int), m < b → (∀ x ∈ r, x < b) → maxI m r < b
 | [],_,h,_=>h
 | x :: r, m, h, hx => by
  show maxI (if m < x then x else m) r < b
  refine maxI_lt r _ ?_ fun y hy=>hx y (List.mem_cons_of_mem _ hy)
  split
  ·exact hx x List.mem_cons_self
  ·exact h
theorem turned_loop (pu : PureF) (M c2 : Nat) {x : List Int} {row : List Nat} (hx : row.length = x.length) (hr : ∀ k ∈ row, k < x.length) (hxl : x.length < 1000) (f1 f2 : Nat) : ∀ (r : List Nat) (w i : Nat) (q : List Int), row.drop i = r → r.length < w → q.length = x.length → q.take i = pick x (row.take i) →
 l34_1 pu M w ⟨x.length,f1,x.map I⟩ x.length c2 ⟨row.length,f2,nvL row⟩ (Int.ofNat row.length) (Int.ofNat i) (q.map I) = some (S 0 (pick x row))
 | _,0,_,_,_,h,_,_=>by omega
 | [], w + 1, i, q, hd, _, hq, ht => by
  show b34_1 pu M (l34_1 pu M w) ⟨x.length,f1,x.map I⟩ x.length c2 ⟨row.length,f2,nvL row⟩ (Int.ofNat row.length) (Int.ofNat i) (q.map I) = _
  have h1:row.length≤i:=List.drop_eq_nil_iff.1 hd
  unfold b34_1
  rw [closedS,bb_true]
  show bb (ilt (Int.ofNat i) (Int.ofNat row.length)) _ (bb (allL closed1 (q.map I)) (bb (an (Nat.ble (0 + x.length * 1) (len (q.map I))) (allL closed1 (takeL (x.length * 1) (dropL 0 (q.map I))))) (some (Sl.v 1 (Sl.mk x.length 0 (takeL (x.length * 1) (dropL 0 (q.map I)))))) none) none) = _
  rw [ilt_nat,decide_eq_false (by omega),bb_false,closedS,bb_true,finS q hq.symm]
  rw [List.take_of_length_le (by omega),List.take_of_length_le (by omega)] at ht
  rw [ht]
 | y :: r, w + 1, i, q, hd, hw, hq, ht => by
  show b34_1 pu M (l34_1 pu M w) ⟨x.length,f1,x.map I⟩ x.length c2 ⟨row.length,f2,nvL row⟩ (Int.ofNat row.length) (Int.ofNat i) (q.map I) = _
  have hrl:(y :: r).length = r.length + 1:=rfl
  have hi2:i < row.length:=by have:=congrArg List.length hd;simp at this;omega
  have hd2:row.drop (i + 1) = r:=by rw [←List.drop_drop,hd];rfl
  have hyi:row[i]? = some y:=by
   have:=congrArg List.head? hd
   rw [List.head?_drop] at this;exact this
  have hym:y < x.length:=hr y (List.mem_of_getElem? hyi)
  have hlt:Nat.blt i row.length = true:=by rw [blt_eq];simp;omega
  have hlt2:Nat.blt y x.length = true:=by rw [blt_eq];simp;omega
  have hlt3:Nat.blt i x.length = true:=by rw [blt_eq];simp;omega
  have hrow:nthL (nvL row) (i * 1) = some (I (Int.ofNat y)):=by
   rw [nthL_eq,Nat.mul_one,show nvL row = row.map fun n=>IV (Int.ofNat n) from mapL_eq _ _,List.getElem?_map,hyi];rfl
  have hset:(q.set i x[y]).take (i + 1) = pick x (row.take (i + 1)):=by
   rw [List.take_add_one,List.take_set_of_le (by omega),ht,List.getElem?_set_self (by omega),List.take_add_one,hyi]
   simp [pick,List.getD_eq_getElem?_getD,hym]
  have ih:=turned_loop pu M c2 hx hr hxl f1 f2 r w (i + 1) (q.set i x[y]) hd2 (by omega) (by simpa using hq) hset
  unfold b34_1
  rw [closedS,bb_true]
  show bb (ilt (Int.ofNat i) (Int.ofNat row.length)) (oo (toN (Int.ofNat i)) none fun k=>bb (an (Nat.blt k row.length) true) (oo (nthL (nvL row) (k * 1)) none fun v=>oo (toI .i64 v) none fun x1=>oo (toN x1) none fun k2=>bb (an (Nat.blt k2 x.length) true) (oo (nthL (x.map I) (k2 * 1)) none fun v=>oo (toI .i64 v) none fun x2=>bb (an (Nat.blt k x.length) true) (bb (an (Nat.ble ((0 + k * 1) + 1) (len (q.map I))) true) (bb (allL closed1 (setL ([(.int .i64 x2)]:List Value) (0 + k * 1) (q.map I))) (l34_1 pu M w ⟨x.length,f1,x.map I⟩ x.length c2 ⟨row.length,f2,nvL row⟩ (Int.ofNat row.length) (wrapF .i64 (Int.add (Int.ofNat k) (1:Int))) (setL ([(.int .i64 x2)]:List Value) (0 + k * 1) (q.map I))) none) none) none) none) none) _ = _
  rw [ilt_nat, decide_eq_true hi2, bb_true, toN_mk, oo_some, hlt, show an true true = true from rfl, bb_true, hrow, oo_some, toI_mk, oo_some, toN_mk, oo_some, hlt2, show an true true = true from rfl, bb_true, getS' hym, oo_some, toI_mk, oo_some, hlt3, show an true true = true from rfl, bb_true,
   len_eq,List.length_map,show Nat.ble (0 + i * 1 + 1) q.length = true from Nat.ble_eq_true_of_le (by omega),show an true true = true from rfl,bb_true,setI _ _ _ (by omega),closedS,bb_true,wrapS i (by omega)]
  exact ih
end Go.BkQ
set_option maxRecDepth 100000
set_option maxHeartbeats 4000000
namespace Go.BkQ
open Go Go.Sp Go.BkPM
noncomputable section
def pressV (r c k fl:Nat) (ts:List Nat):Value:=.agg ⟨[I (.ofNat r),I (.ofNat c),I (.ofNat k),Sl.v 1 ⟨len ts,fl,nvL ts⟩]⟩
def rowsV (r c:Nat) (ts:List Nat):List Value:=mapL (fun t=>rowV (cellL r c t)) ts
def bedL (r c k fl:Nat) (ts:List Nat):List Value:=[I (.ofNat r),I (.ofNat c),I (.ofNat k),Sl.v 1 ⟨len ts,fl,nvL ts⟩,Sl.v 1 ⟨len ts,0,rowsV r c ts⟩]
def bedV (r c k fl:Nat) (ts:List Nat):Value:=fpV 0 (bedL r c k fl ts)
def groupsL:List (Nat×Nat×List Nat):=[(1,1,[0]),(1,1,[0,2]),(1,1,[0,4]),(1,1,[0,5]),(1,1,[0,2,4,5]),(1,1,[0,1,2,3]),(1,1,[0,6]),(1,1,[0,7]),(1,1,[0,2,6,7]),(1,1,[0,1,2,3,4,5,6,7]),(1,2,[0]),(1,2,[0,2]),(1,2,[0,4]),(1,2,[0,5]),(1,2,[0,2,4,5]),(1,3,[0]),(1,3,[0,2]),(1,3,[0,4]),(1,3,[0,5]),(1,3,[0,2,4,5]),(1,4,[0]),(1,4,[0,2]),(1,4,[0,4]),(1,4,[0,5]),(1,4,[0,2,4,5]),(2,1,[0]),(2,1,[0,2]),(2,1,[0,4]),(2,1,[0,5]),(2,1,[0,2,4,5]),(2,2,[0]),(2,2,[0,2]),(2,2,[0,4]),(2,2,[0,5]),(2,2,[0,2,4,5]),(2,2,[0,1,2,3]),(2,2,[0,6]),(2,2,[0,7]),(2,2,[0,2,6,7]),(2,2,[0,1,2,3,4,5,6,7]),(2,3,[0]),(2,3,[0,2]),(2,3,[0,4]),(2,3,[0,5]),(2,3,[0,2,4,5]),(2,4,[0]),(2,4,[0,2]),(2,4,[0,4]),(2,4,[0,5]),(2,4,[0,2,4,5]),(3,1,[0]),(3,1,[0,2]),(3,1,[0,4]),(3,1,[0,5]),(3,1,[0,2,4,5]),(3,2,[0]),(3,2,[0,2]),(3,2,[0,4]),(3,2,[0,5]),(3,2,[0,2,4,5]),(3,3,[0]),(3,3,[0,2]),(3,3,[0,4]),(3,3,[0,5]),(3,3,[0,2,4,5]),(3,3,[0,1,2,3]),(3,3,[0,6]),(3,3,[0,7]),(3,3,[0,2,6,7]),(3,3,[0,1,2,3,4,5,6,7]),(3,4,[0]),(3,4,[0,2]),(3,4,[0,4]),(3,4,[0,5]),(3,4,[0,2,4,5]),(4,1,[0]),(4,1,[0,2]),(4,1,[0,4]),(4,1,[0,5]),(4,1,[0,2,4,5]),(4,2,[0]),(4,2,[0,2]),(4,2,[0,4]),(4,2,[0,5]),(4,2,[0,2,4,5]),(4,3,[0]),(4,3,[0,2]),(4,3,[0,4]),(4,3,[0,5]),(4,3,[0,2,4,5]),(4,4,[0]),(4,4,[0,2]),(4,4,[0,4]),(4,4,[0,5]),(4,4,[0,2,4,5]),(4,4,[0,1,2,3]),(4,4,[0,6]),(4,4,[0,7]),(4,4,[0,2,6,7]),(4,4,[0,1,2,3,4,5,6,7])]
end
theorem laid_runs (n fl k:Nat) (hk:k = 1∨k = 2∨k = 3∨k = 4):mapL (fun p=>puN (n + 6) 49 [pressV p.1 p.2.1 k fl p.2.2]) groupsL = mapL (fun p=>some (.tuple ⟨[bedV p.1 p.2.1 k fl p.2.2,I 0]⟩)) groupsL:=by
 rcases hk with rfl | rfl | rfl | rfl <;> kernel_rfl
theorem mapL_mem {α β : Type} {f g : α → β} : ∀ {l : List α}, mapL f l = mapL g l → ∀ x ∈ l, f x = g x
 | [],_,_,h=>by cases h
 | a :: l, h, x, hx => by
  injection (show f a :: mapL f l = g a :: mapL g l from h) with h1 h2
  cases hx with
  | head=>exact h1
  | tail _ hx=>exact mapL_mem h2 x hx
theorem pu_laid (n fl:Nat) {r c k:Nat} {ts:List Nat} (hk:k = 1∨k = 2∨k = 3∨k = 4) (h:(r,c,ts) ∈ groupsL):puN (n + 6) 49 [pressV r c k fl ts] = some (.tuple ⟨[bedV r c k fl ts,I 0]⟩):=mapL_mem (f:=fun p:Nat×Nat×List Nat=>puN (n + 6) 49 [pressV p.1 p.2.1 k fl p.2.2]) (g:=fun p=>some (.tuple ⟨[bedV p.1 p.2.1 k fl p.2.2,I 0]⟩)) (laid_runs n fl k hk) (r,c,ts) h
theorem p34 (k:Nat) (args:List Value):puN (k + 1) 34 args = m34 (puN k) L args:=by kernel_rfl
theorem pu_turned (n f g : Nat) {d0 d1 d2 d3 : Value} {rows : List Value} {m i : Nat} {row : List Nat} {x : List Int} (hi : nthL rows (i * 1) = some (rowV row)) (hm : i < m) (hx : row.length = x.length) (hr : ∀ k ∈ row, k < x.length) (hxl : x.length < 1000) :
 puN (n + 1) 34 [fpV 0 [d0,d1,d2,d3,Sl.v 1 ⟨m,g,rows⟩],S f x,I (.ofNat i)] = some (S 0 (pick x row)):=by
 rw [p34]
 show bb (an (Nat.ble x.length x.length) (an (Nat.ble (x.length * 8) 1099511627776) (an (Nat.ble x.length 1099511627776) true))) (bb (allL closed1 (zeroRow ([(.int .i64 (0:Int))]:List Value) x.length)) (bb (an (Nat.blt i m) true) (oo (nthL rows (i * 1)) none fun v5323=>(oo (toSl 1 v5323) none fun s5325=>
  (l34_1 (puN n) L L ⟨x.length,f,x.map I⟩ x.length (2 * x.length + bb true 1 0) s5325 (Int.ofNat (Sl.n s5325)) (Int.ofNat 0) (zeroRow ([(.int .i64 (0:Int))]:List Value) x.length)))) none) none) none = _
 rw [Nat.ble_eq_true_of_le (Nat.le_refl _),Nat.ble_eq_true_of_le (by omega),Nat.ble_eq_true_of_le (by omega),show an true (an true (an true true)) = true from rfl,bb_true,zeroS,closedS,bb_true,show Nat.blt i m = true from by rw [blt_eq];simpa using hm,show an true true = true from rfl,bb_true,hi,oo_some]
 show oo (toSl 1 (Sl.v 1 ⟨len row,0,nvL row⟩)) none _ = _
 rw [toSl_mk,oo_some,len_eq]
 exact turned_loop (puN n) L _ hx hr hxl f 0 row L 0 _ List.drop_zero (by show _ < 1000000;omega) (by simp) (by simp [pick])
def validE (r c k:Nat) (x:List Int):Int:=if x.length ≠ r * c then 5 else if (∀ z ∈ x,0≤z∧z < (k:Int)) then 0 else 1
theorem minI_lt {b : Int} : ∀ (r : List Int) (m : Int), (m < b ∨ ∃ x ∈ r, x < b) → minI m r < b
 | [], m, h => by
  rcases h with h | ⟨x,hx,_⟩
  ·exact h
  ·cases hx
 | y :: r, m, h => by
  show minI (if y < m then y else m) r < b
  refine minI_lt r _ ?_
  rcases h with h | ⟨x,hx,h⟩
  ·left;split <;> omega
  ·rcases List.mem_cons.1 hx with rfl | hx
   ·left;split <;> omega
   ·exact .inr ⟨x,hx,h⟩
theorem maxI_ge {b : Int} : ∀ (r : List Int) (m : Int), (b ≤ m ∨ ∃ x ∈ r, b ≤ x) → b ≤ maxI m r
 | [], m, h => by
  rcases h with h | ⟨x,hx,_⟩
  ·exact h
  ·cases hx
 | y :: r, m, h => by
  show b≤maxI (if m < y then y else m) r
  refine maxI_ge r _ ?_
  rcases h with h | ⟨x,hx,h⟩
  ·left;split <;> omega
  ·rcases List.mem_cons.1 hx with rfl | hx
   ·left;split <;> omega
   ·exact .inr ⟨x,hx,h⟩
theorem p58 (k:Nat) (args:List Value):puN (k + 1) 58 args = m58 (puN k) L args:=by kernel_rfl
theorem pu_valid (n f : Nat) {r c k : Nat} {d3 d4 : Value} {x : List Int} (hr : 1 ≤ r) (hr4 : r ≤ 4) (hc : 1 ≤ c) (hc4 : c ≤ 4) (hx : x.length < 900000) :
 puN (n + 2) 58 [fpV 0 [I (.ofNat r),I (.ofNat c),I (.ofNat k),d3,d4],S f x] = some (I (validE r c k x)):=by
 rw [p58]
 show bb (nt (ieq (Int.ofNat x.length) (wrapF .i64 (Int.mul (Int.ofNat r) (Int.ofNat c))))) (some (I 5)) (oo (puN (n + 1) 68 [S f x]) none fun v6555=>(oo (toI .i64 v6555) none fun x6557=>(bb (ilt x6557 (0:Int)) (some (I 1)) (oo (puN (n + 1) 69 [S f x]) none fun v6564=>(oo (toI .i64 v6564) none fun x6566=>bb (nt (ilt x6566 (Int.ofNat k))) (some (I 1)) (some (I 0))))))) = _
 have hrc:r * c≤16:=Nat.mul_le_mul hr4 hc4
 have hrc1:1≤r * c:=Nat.mul_le_mul hr hc
 rw [show Int.mul (Int.ofNat r) (Int.ofNat c) = Int.ofNat (r * c) from rfl,wrapI _ (by simp;omega) (by simp;omega),ieq_dec]
 unfold validE
 by_cases h:x.length = r * c
 ·rw [decide_eq_true (congrArg Int.ofNat h), show nt true = false from rfl, bb_false, if_neg (by simpa using h)]
  obtain ⟨y,t,rfl⟩:∃ y t,x = y :: t:=by
   cases x with
   | nil=>simp at h;omega
   | cons y t=>exact ⟨y,t,rfl⟩
  rw [pu_min n f hx,oo_some,toI_mk,oo_some,pu_max n f hx,oo_some,toI_mk,oo_some,ilt_dec,ilt_dec]
  by_cases h1:minI y t < 0
  ·rw [decide_eq_true h1, bb_true, if_neg]
   intro ha
   have:=minI_ge (b:=0) t y (ha y List.mem_cons_self).1 fun z hz=>(ha z (List.mem_cons_of_mem _ hz)).1
   omega
  ·rw [decide_eq_false h1, bb_false]
   by_cases h2:maxI y t < Int.ofNat k
   ·rw [decide_eq_true h2, show nt true = false from rfl, bb_false, if_pos]
    intro z hz
    refine ⟨?_,?_⟩
    ·refine Int.not_lt.1 fun hn => h1 (minI_lt t y ?_)
     rcases List.mem_cons.1 hz with rfl | hz
     ·exact .inl hn
     ·exact .inr ⟨z,hz,hn⟩
    ·refine Int.not_le.1 fun hn => Int.not_le.2 h2 (maxI_ge t y ?_)
     rcases List.mem_cons.1 hz with rfl | hz
     ·exact .inl hn
     ·exact .inr ⟨z,hz,hn⟩
   ·rw [decide_eq_false h2, show nt false = true from rfl, bb_true, if_neg]
    intro ha
    exact h2 (maxI_lt t y (ha y List.mem_cons_self).2 fun z hz=>(ha z (List.mem_cons_of_mem _ hz)).2)
 ·rw [decide_eq_false (fun e=>h (Int.ofNat.inj e)),show nt false = true from rfl,bb_true,if_pos h]
def firstE : List Int → Int
 | []=>0
 | e :: r=>if e = 0 then firstE r else e
def openR (b:Value) (e:Int):Value:=if e = 0 then .tuple ⟨[b,I 0]⟩ else .tuple ⟨[.pointer none,I e]⟩
theorem opened_loop (pu : PureF) (M off : Nat) (cs : List Value) {bs : List Sl} {e : Sl → Int} (h : ∀ s ∈ bs, pu 58 [fpV off cs, Sl.v 1 s] = some (I (e s))) (hl : bs.length < 1000) (f : Nat) : ∀ (r : List Sl) (w i : Nat), bs.drop i = r → r.length < w →
 l32_1 pu M w off cs ⟨bs.length,f,bs.map (Sl.v 1)⟩ (Int.ofNat bs.length) (Int.ofNat i) = some (openR (fpV off cs) (firstE (r.map e)))
 | _,0,_,_,hw=>by omega
 | [], w + 1, i, hd, _ => by
  show b32_1 pu M (l32_1 pu M w) off cs ⟨bs.length,f,bs.map (Sl.v 1)⟩ (Int.ofNat bs.length) (Int.ofNat i) = _
  have h1:bs.length≤i:=List.drop_eq_nil_iff.1 hd
  unfold b32_1
  rw [ilt_nat,decide_eq_false (by omega)];rfl
 | s :: r, w + 1, i, hd, hw => by
  show b32_1 pu M (l32_1 pu M w) off cs ⟨bs.length,f,bs.map (Sl.v 1)⟩ (Int.ofNat bs.length) (Int.ofNat i) = _
  have hi2:i < bs.length:=by have:=congrArg List.length hd;simp at this;omega
  have hd2:bs.drop (i + 1) = r:=by rw [←List.drop_drop,hd];rfl
  have hsi:bs[i]? = some s:=by
   have:=congrArg List.head? hd
   rw [List.head?_drop] at this;exact this
  have hs:=h s (List.mem_of_getElem? hsi)
  have hn:nthL (bs.map (Sl.v 1)) (i * 1) = some (Sl.v 1 s):=by rw [nthL_eq,Nat.mul_one,List.getElem?_map,hsi];rfl
  have hrl:(s :: r).length = r.length + 1:=rfl
  have ih:=opened_loop pu M off cs h hl f r w (i + 1) hd2 (by omega)
  unfold b32_1
  show bb (ilt (Int.ofNat i) (Int.ofNat bs.length)) (oo (toN (Int.ofNat i)) none fun k=>bb (an (Nat.blt k bs.length) true) (oo (nthL (bs.map (Sl.v 1)) (k * 1)) none fun v=>oo (toSl 1 v) none fun s1=>oo (pu 58 [fpV off cs,Sl.v 1 s1]) none fun v=>oo (toI .i64 v) none fun x=>bb (nt (ieq x (0:Int))) (some (.tuple ⟨[.pointer none,I x]⟩)) (l32_1 pu M w off cs ⟨bs.length,f,bs.map (Sl.v 1)⟩ (Int.ofNat bs.length) (wrapF .i64 (Int.add (Int.ofNat k) (1:Int))))) none) _ = _
  rw [ilt_nat,decide_eq_true hi2,bb_true,toN_mk,oo_some,show Nat.blt i bs.length = true from by rw [blt_eq];simpa using hi2,show an true true = true from rfl,bb_true,hn,oo_some,toSl_mk,oo_some,hs,oo_some,toI_mk,oo_some,wrapS i (by omega),ih,ieq_dec]
  show _ = some (openR (fpV off cs) (if e s = 0 then firstE (r.map e) else e s))
  by_cases he:e s = 0
  ·rw [decide_eq_true he,show nt true = false from rfl,bb_false,if_pos he]
  ·rw [decide_eq_false he, show nt false = true from rfl, bb_true, if_neg he]
   unfold openR
   rw [if_neg he]
theorem p32 (k:Nat) (args:List Value):puN (k + 1) 32 args = m32 (puN k) L args:=by kernel_rfl
theorem pu_opened (n f fl : Nat) {r c k : Nat} {ts : List Nat} {bs : List Sl} (hk : k = 1 ∨ k = 2 ∨ k = 3 ∨ k = 4) (hg : (r, c, ts) ∈ groupsL) (hr : 1 ≤ r) (hr4 : r ≤ 4) (hc : 1 ≤ c) (hc4 : c ≤ 4) (e : Sl → Int)
 (hb:∀ s ∈ bs,∃ f x,s = sl f x∧x.length < 900000∧e s = validE r c k x) (hl:bs.length < 1000) :
 puN (n + 7) 32 [pressV r c k fl ts,Sl.v 1 ⟨bs.length,f,bs.map (Sl.v 1)⟩] = some (openR (bedV r c k fl ts) (firstE (bs.map e))):=by
 rw [p32]
 show oo (puN (n + 6) 49 [pressV r c k fl ts]) none _ = _
 rw [pu_laid n fl hk hg,oo_some]
 show l32_1 (puN (n + 6)) L L 0 (bedL r c k fl ts) ⟨bs.length,f,bs.map (Sl.v 1)⟩ (Int.ofNat bs.length) (Int.ofNat 0) = _
 exact opened_loop (puN (n + 6)) L 0 (bedL r c k fl ts) (fun s hs=>by
  obtain ⟨f,x,rfl,hx,he⟩:=hb s hs
  rw [he]
  exact pu_valid (n + 4) f hr hr4 hc hc4 hx) hl f bs L 0 List.drop_zero (by show _ < 1000000;omega)
end Go.BkQ
set_option maxRecDepth 100000
set_option maxHeartbeats 4000000
namespace Go.BkQ
open Go Go.Sp Go.BkPM
def idxZ (z : Int) : List Nat → Nat → Int
 | [],_=>-1
 | y :: r,i=>if z = Int.ofNat y then Int.ofNat i else idxZ z r (i + 1)
theorem index_loop (pu : PureF) (M f : Nat) {ts : List Nat} (hl : ts.length < 1000) (z : Int) : ∀ (r : List Nat) (w i : Nat), ts.drop i = r → r.length < w →
 l33_1 pu M w ⟨ts.length,f,nvL ts⟩ z (Int.ofNat ts.length) (Int.ofNat i) = some (I (idxZ z r i))
 | _,0,_,_,hw=>by omega
 | [], w + 1, i, hd, _ => by
  show b33_1 pu M (l33_1 pu M w) ⟨ts.length,f,nvL ts⟩ z (Int.ofNat ts.length) (Int.ofNat i) = _
  have h1:ts.length≤i:=List.drop_eq_nil_iff.1 hd
  unfold b33_1
  rw [ilt_nat,decide_eq_false (by omega)];rfl
 | y :: r, w + 1, i, hd, hw => by
  show b33_1 pu M (l33_1 pu M w) ⟨ts.length,f,nvL ts⟩ z (Int.ofNat ts.length) (Int.ofNat i) = _
  have hi2:i < ts.length:=by have:=congrArg List.length hd;simp at this;omega
  have hd2:ts.drop (i + 1) = r:=by rw [←List.drop_drop,hd];rfl
  have hyi:ts[i]? = some y:=by
   have:=congrArg List.head? hd
   rw [List.head?_drop] at this;exact this
  have hn:nthL (nvL ts) (i * 1) = some (I (Int.ofNat y)):=by
   rw [nthL_eq,Nat.mul_one,show nvL ts = ts.map fun n=>IV (Int.ofNat n) from mapL_eq _ _,List.getElem?_map,hyi];rfl
  have hrl:(y :: r).length = r.length + 1:=rfl
  have ih:=index_loop pu M f hl z r w (i + 1) hd2 (by omega)
  unfold b33_1
  show bb (ilt (Int.ofNat i) (Int.ofNat ts.length)) (oo (toN (Int.ofNat i)) none fun k=>bb (an (Nat.blt k ts.length) true) (oo (nthL (nvL ts) (k * 1)) none fun v=>oo (toI .i64 v) none fun x=>bb (ieq z x) (some (I (Int.ofNat k))) (l33_1 pu M w ⟨ts.length,f,nvL ts⟩ z (Int.ofNat ts.length) (wrapF .i64 (Int.add (Int.ofNat k) (1:Int))))) none) _ = _
  rw [ilt_nat,decide_eq_true hi2,bb_true,toN_mk,oo_some,show Nat.blt i ts.length = true from by rw [blt_eq];simpa using hi2,show an true true = true from rfl,bb_true,hn,oo_some,toI_mk,oo_some,wrapS i (by omega),ih,ieq_dec]
  show _ = some (I (if z = Int.ofNat y then Int.ofNat i else idxZ z r (i + 1)))
  by_cases h:z = Int.ofNat y
  ·rw [decide_eq_true h,if_pos h];rfl
  ·rw [decide_eq_false h,if_neg h];rfl
theorem p33 (k:Nat) (args:List Value):puN (k + 1) 33 args = m33 (puN k) L args:=by kernel_rfl
theorem pu_index (n f:Nat) {ts:List Nat} (hl:ts.length < 1000) (z:Int):puN (n + 1) 33 [Sl.v 1 ⟨len ts,f,nvL ts⟩,I z] = some (I (idxZ z ts 0)):=by
 rw [p33,len_eq]
 exact index_loop (puN n) L f hl z ts L 0 List.drop_zero (by show _ < 1000000;omega)
theorem idxZ_mem {t : Nat} : ∀ {ts : List Nat} {i : Nat}, t ∈ ts → ∃ j, ts[j]? = some t ∧ idxZ (Int.ofNat t) ts i = Int.ofNat (i + j)
 | y :: r, i, h => by
  by_cases e:t = y
  ·subst e
   refine ⟨0,rfl,?_⟩
   show (if Int.ofNat t = Int.ofNat t then Int.ofNat i else _) = _
   rw [if_pos rfl];rfl
  ·obtain ⟨j, h1, h2⟩ := idxZ_mem (i := i + 1) (show t ∈ r from by
    rcases List.mem_cons.1 h with h | h
    ·exact absurd h e
    ·exact h)
   refine ⟨j + 1,by simpa using h1,?_⟩
   show (if Int.ofNat t = Int.ofNat y then Int.ofNat i else idxZ (Int.ofNat t) r (i + 1)) = _
   rw [if_neg (fun h=>e (Int.ofNat.inj h)),h2];congr 1;omega
noncomputable def in14 (n:Nat):Bool:=an (Nat.ble 1 n) (Nat.ble n 4)
noncomputable def rowOk (r c t:Nat):Bool:=an (Nat.beq (len (cellL r c t)) (r * c)) (allL (fun k=>Nat.blt k (r * c)) (cellL r c t))
noncomputable def pressOk (p:Nat×Nat×List Nat):Bool:=an (in14 p.1) (an (in14 p.2.1) (an (Nat.ble (len p.2.2) 8) (allL (fun t=>an (Nat.ble t 7) (rowOk p.1 p.2.1 t)) p.2.2)))
theorem groups_ok:allL pressOk groupsL = true:=by kernel_rfl
theorem in14_inv {n:Nat} (h:in14 n = true):1≤n∧n≤4:=by
 obtain ⟨h1,h2⟩:=an_inv h
 exact ⟨Nat.le_of_ble_eq_true h1,Nat.le_of_ble_eq_true h2⟩
structure PressOk (r c:Nat) (ts:List Nat):Prop where
 r1:1≤r
 r4:r≤4
 c1:1≤c
 c4:c≤4
 len8:ts.length≤8
 row:∀ t ∈ ts,t≤7∧(cellL r c t).length = r * c∧∀ k ∈ cellL r c t,k < r * c
theorem press_ok {r c:Nat} {ts:List Nat} (h:(r,c,ts) ∈ groupsL):PressOk r c ts:=by
 have h1:=groups_ok
 rw [allL_eq,List.all_eq_true] at h1
 obtain ⟨a1,a2⟩:=an_inv (h1 _ h)
 obtain ⟨a2,a3⟩:=an_inv a2
 obtain ⟨a3,a4⟩:=an_inv a3
 have a3:=Nat.le_of_ble_eq_true a3
 rw [len_eq] at a3
 rw [allL_eq,List.all_eq_true] at a4
 refine ⟨(in14_inv a1).1,(in14_inv a1).2,(in14_inv a2).1,(in14_inv a2).2,a3,fun t ht=>?_⟩
 obtain ⟨b1,b2⟩:=an_inv (a4 t ht)
 obtain ⟨b2,b3⟩:=an_inv b2
 have b2:=Nat.eq_of_beq_eq_true b2
 rw [len_eq] at b2
 rw [allL_eq,List.all_eq_true] at b3
 exact ⟨Nat.le_of_ble_eq_true b1,b2,fun k hk=>by simpa [blt_eq] using b3 k hk⟩
def Right (r c k:Nat) (x:List Int):Prop:=x.length = r * c∧∀ z ∈ x,0≤z∧z < (k:Int)
theorem Right.valid {r c k:Nat} {x:List Int} (h:Right r c k x):validE r c k x = 0:=by
 unfold validE
 rw [if_neg (by simpa using h.1),if_pos h.2]
theorem pick_len (x:List Int) (row:List Nat):(pick x row).length = row.length:=by simp [pick]
theorem Right.pick {r c k t:Nat} {ts:List Nat} {x:List Int} (hp:PressOk r c ts) (ht:t ∈ ts) (h:Right r c k x):Right r c k (pick x (cellL r c t)):=by
 obtain ⟨_,h1,h2⟩:=hp.row t ht
 refine ⟨by rw [pick_len,h1],fun z hz=>?_⟩
 unfold BkQ.pick at hz
 obtain ⟨j,hj,rfl⟩:=List.mem_map.1 hz
 have hj2:j < x.length:=by rw [h.1];exact h2 j hj
 rw [List.getD_eq_getElem?_getD,List.getElem?_eq_getElem hj2]
 exact h.2 _ (List.getElem_mem hj2)
theorem p11 (k:Nat) (args:List Value):puN (k + 1) 11 args = m11 (puN k) L args:=by kernel_rfl
theorem one_sl (f:Nat) (x:List Int):(Sl.v 1 (Sl.mk 1 0 (takeL (1 * 1) (dropL 0 ([(S f x)]:List Value))))) = Sl.v 1 ⟨[sl f x].length,0,[sl f x].map (Sl.v 1)⟩:=rfl
theorem pu_turn (n f fl : Nat) {r c k t : Nat} {ts : List Nat} {x : List Int} (hk : k = 1 ∨ k = 2 ∨ k = 3 ∨ k = 4) (hg : (r, c, ts) ∈ groupsL) (ht : t ∈ ts) (hx : Right r c k x) :
 puN (n + 8) 11 [pressV r c k fl ts,S f x,I (Int.ofNat t)] = some (.tuple ⟨[S 0 (pick x (cellL r c t)),I 0]⟩):=by
 have hp:=press_ok hg
 have hrc:r * c≤16:=Nat.mul_le_mul hp.r4 hp.c4
 have ho:=pu_opened n 0 fl (bs:=[sl f x]) hk hg hp.r1 hp.r4 hp.c1 hp.c4 (fun _=>0) (fun s hs=>by
  obtain rfl:=List.mem_singleton.1 hs
  exact ⟨f,x,rfl,by rw [hx.1];omega,hx.valid.symm⟩) (by simp)
 obtain ⟨j,h1,h2⟩:=idxZ_mem (i:=0) ht
 rw [Nat.zero_add] at h2
 have hj:j < ts.length:=(List.getElem?_eq_some_iff.1 h1).1
 have hi:=pu_index (n + 6) fl (ts:=ts) (by have:=hp.len8;omega) (Int.ofNat t)
 rw [h2] at hi
 obtain ⟨_,q1,q2⟩:=hp.row t ht
 have htu := pu_turned (n + 6) f 0 (d0 := I (.ofNat r)) (d1 := I (.ofNat c)) (d2 := I (.ofNat k)) (d3 := Sl.v 1 ⟨len ts, fl, nvL ts⟩) (rows := rowsV r c ts) (m := len ts) (i := j) (row := cellL r c t) (x := x)
  (by rw [nthL_eq,Nat.mul_one,show rowsV r c ts = ts.map fun t=>rowV (cellL r c t) from mapL_eq _ _,List.getElem?_map,h1];rfl) (by rw [len_eq];exact hj) (by rw [q1,hx.1]) (fun k hk=>by rw [hx.1];exact q2 k hk) (by rw [hx.1];omega)
 rw [p11]
 show oo (puN (n + 7) 32 [pressV r c k fl ts,Sl.v 1 (Sl.mk 1 0 (takeL (1 * 1) (dropL 0 ([(S f x)]:List Value))))]) none _ = _
 rw [one_sl,ho]
 show oo (puN (n + 7) 33 [Sl.v 1 ⟨len ts,fl,nvL ts⟩,I (Int.ofNat t)]) none _ = _
 rw [hi,oo_some,toI_mk,oo_some]
 show bb (ilt (Int.ofNat j) (0:Int)) _ (oo (puN (n + 7) 34 [bedV r c k fl ts,S f x,I (Int.ofNat j)]) none fun v=>(oo (toSl 1 v) none fun s=>(some (Value.tuple ⟨[(Sl.v 1 s),(.int .i64 (0:Int))]⟩)))) = _
 rw [show ilt (Int.ofNat j) (0:Int) = ilt (Int.ofNat j) (Int.ofNat 0) from rfl,ilt_nat,decide_eq_false (by omega),bb_false]
 show oo (puN (n + 6 + 1) 34 [fpV 0 [I (.ofNat r),I (.ofNat c),I (.ofNat k),Sl.v 1 ⟨len ts,fl,nvL ts⟩,Sl.v 1 ⟨len ts,0,rowsV r c ts⟩],S f x,I (Int.ofNat j)]) none _ = _
 rw [htu];rfl
end Go.BkQ
set_option maxRecDepth 100000
set_option maxHeartbeats 4000000
namespace Go.BkQ
open Go Go.Sp Go.BkPM
noncomputable section
def senQ (t:Nat):Nat:=bb (Nat.blt t 4) t (bb (Nat.beq t 4) 0 (bb (Nat.beq t 5) 2 (bb (Nat.beq t 6) 1 3)))
def senF (t:Nat):Bool:=nt (Nat.blt t 4)
def backT (q:Nat) (f:Bool):Nat:=bb f (bb (Nat.beq q 0) 4 (bb (Nat.beq q 1) 6 (bb (Nat.beq q 2) 5 7))) q
def prodN (a b:Nat):Nat:=backT ((bb (senF a) (senQ a + 4 - senQ b) (senQ a + senQ b)) % 4) (bb (senF a) (nt (senF b)) (senF b))
def p64:List (Nat×Nat):=[(0,0),(0,1),(0,2),(0,3),(0,4),(0,5),(0,6),(0,7),(1,0),(1,1),(1,2),(1,3),(1,4),(1,5),(1,6),(1,7),(2,0),(2,1),(2,2),(2,3),(2,4),(2,5),(2,6),(2,7),(3,0),(3,1),(3,2),(3,3),(3,4),(3,5),(3,6),(3,7),(4,0),(4,1),(4,2),(4,3),(4,4),(4,5),(4,6),(4,7),(5,0),(5,1),(5,2),(5,3),(5,4),(5,5),(5,6),(5,7),(6,0),(6,1),(6,2),(6,3),(6,4),(6,5),(6,6),(6,7),(7,0),(7,1),(7,2),(7,3),(7,4),(7,5),(7,6),(7,7)]
def nineI:List Int:=[0,1,2,3,4,5,6,7,8]
def t3 (t:Nat) (x:List Int):List Int:=pick x (cellL 3 3 t)
def compL (r1 r2:List Nat):List Nat:=mapL (fun k=>oo (nthL r1 k) 0 fun v=>v) r2
def oneB (z a:Nat):Bool:=ieq (aand .u8 (shrI .u8 (.ofNat z) a) (1:Int)) (1:Int)
def zeroB (z a:Nat):Bool:=ieq (aand .u8 (shrI .u8 (.ofNat z) a) (1:Int)) (0:Int)
def g1 (z a b:Nat) (g:Bool):Bool:=bb g (bb (zeroB z a) true (bb (zeroB z b) true (oneB z (prodN a b)))) false
def foldB (z a d:Nat):Nat→Bool→Bool:=Nat.rec (motive:=fun _=>Nat→Bool→Bool) (fun _ g=>g) (fun _ ih b g=>ih (b + 1) (g1 z a b g)) d
def foldA (z d:Nat):Nat→Bool→Bool:=Nat.rec (motive:=fun _=>Nat→Bool→Bool) (fun _ g=>g) (fun _ ih a g=>ih (a + 1) (foldB z a 8 0 g)) d
def ownA (z d:Nat):Nat→List Int→List Int:=Nat.rec (motive:=fun _=>Nat→List Int→List Int) (fun _ q=>q) (fun _ ih a q=>ih (a + 1) (bb (oneB z a) (appL q [Int.ofNat a]) q)) d
def g0 (z:Nat):Bool:=ieq (aand .u8 (.ofNat z) (1:Int)) (1:Int)
end
theorem p64_mem {a b:Nat} (ha:a < 8) (hb:b < 8):(a,b) ∈ p64:=by
 have ha:a = 0∨a = 1∨a = 2∨a = 3∨a = 4∨a = 5∨a = 6∨a = 7:=by omega
 have hb:b = 0∨b = 1∨b = 2∨b = 3∨b = 4∨b = 5∨b = 6∨b = 7:=by omega
 rcases ha with rfl | rfl | rfl | rfl | rfl | rfl | rfl | rfl <;> rcases hb with rfl | rfl | rfl | rfl | rfl | rfl | rfl | rfl <;> simp [p64]
theorem prod_runs (n:Nat):mapL (fun p=>puN (n + 4) 24 [I (.ofNat p.1),I (.ofNat p.2)]) p64 = mapL (fun p=>some (.tuple ⟨[I (.ofNat (prodN p.1 p.2)),I 0]⟩)) p64:=by kernel_rfl
theorem nine_runs (n:Nat):mapL (fun p=>puN (n + 4) 10 [S 0 nineI,I 3,I 3,I (.ofNat p.1)]) p64 = mapL (fun p=>some (S 0 (t3 p.1 nineI))) p64:=by kernel_rfl
theorem nine2_runs (n:Nat):mapL (fun p=>puN (n + 4) 10 [S 0 (t3 p.1 nineI),I 3,I 3,I (.ofNat p.2)]) p64 = mapL (fun p=>some (S 0 (t3 p.2 (t3 p.1 nineI)))) p64:=by kernel_rfl
theorem comp_runs:mapL (fun p=>compL (cellL 3 3 p.1) (cellL 3 3 p.2)) p64 = mapL (fun p=>cellL 3 3 (prodN p.1 p.2)) p64:=by kernel_rfl
theorem prod_lt:mapL (fun p:Nat×Nat=>Nat.blt (prodN p.1 p.2) 8) p64 = mapL (fun _=>true) p64:=by kernel_rfl
theorem list8 (n:Nat):puN (n + 1) 22 [(Sl.v 1 (Sl.mk 8 0 (takeL (8 * 1) (dropL 0 ([(.int .i64 (0:Int)),(.int .i64 (1:Int)),(.int .i64 (2:Int)),(.int .i64 (3:Int)),(.int .i64 (4:Int)),(.int .i64 (5:Int)),(.int .i64 (6:Int)),(.int .i64 (7:Int))]:List Value)))))] = some (Sl.v 1 ⟨8,0,nvL [0,1,2,3,4,5,6,7]⟩):=by kernel_rfl
theorem list9 (n:Nat):puN (n + 1) 22 [(Sl.v 1 (Sl.mk 9 0 (takeL (9 * 1) (dropL 0 ([(.int .i64 (0:Int)),(.int .i64 (1:Int)),(.int .i64 (2:Int)),(.int .i64 (3:Int)),(.int .i64 (4:Int)),(.int .i64 (5:Int)),(.int .i64 (6:Int)),(.int .i64 (7:Int)),(.int .i64 (8:Int))]:List Value)))))] = some (S 0 nineI):=by kernel_rfl
theorem pick_pick {x:List Int} {r1 r2:List Nat} (h:∀ k ∈ r2,k < r1.length):pick (pick x r1) r2 = pick x (compL r1 r2):=by
 unfold pick compL
 rw [mapL_eq,List.map_map]
 refine List.map_congr_left fun k hk=>?_
 have:=h k hk
 simp [List.getD_eq_getElem?_getD,nthL_eq,this]
theorem all3:(3,3,[0,1,2,3,4,5,6,7]) ∈ groupsL:=by simp [groupsL]
theorem ok3:PressOk 3 3 [0,1,2,3,4,5,6,7]:=press_ok all3
theorem mem8 {a:Nat} (h:a < 8):a ∈ [0,1,2,3,4,5,6,7]:=by simp;omega
theorem t3_t3 {a b:Nat} (ha:a < 8) (hb:b < 8) (x:List Int):t3 b (t3 a x) = t3 (prodN a b) x:=by
 unfold t3
 rw [pick_pick (fun k hk=>by rw [(ok3.row a (mem8 ha)).2.1];exact (ok3.row b (mem8 hb)).2.2 k hk),mapL_mem (f:=fun p:Nat×Nat=>compL (cellL 3 3 p.1) (cellL 3 3 p.2)) (g:=fun p=>cellL 3 3 (prodN p.1 p.2)) comp_runs (a,b) (p64_mem ha hb)]
theorem prod_lt8 {a b:Nat} (ha:a < 8) (hb:b < 8):prodN a b < 8:=by
 have:=mapL_mem (f:=fun p:Nat×Nat=>Nat.blt (prodN p.1 p.2) 8) (g:=fun _=>true) prod_lt (a,b) (p64_mem ha hb)
 simpa [blt_eq] using this
end Go.BkQ
set_option maxRecDepth 100000
set_option maxHeartbeats 4000000
namespace Go.BkQ
open Go Go.Sp Go.BkPM
abbrev Ih0:=Int→Sl→Bool→Int→Int→Int→Int→Sl→Int→Int→Int→Nat→Nat→List Value→Option Value
abbrev Ih1:=Int→Sl→Bool→Int→Int→Int→Int→Int→Sl→Int→Int→Int→Nat→Nat→List Value→Option Value
noncomputable def s8:Sl:=⟨8,0,nvL [0,1,2,3,4,5,6,7]⟩
section
variable (pu:PureF) (M:Nat) (ih0:Ih0) (ih1:Ih1)
theorem step10 {z a b t : Nat} (x : Sl) (g : Bool) {q : List Int} {n c : Nat} (hb : b < 8) :
 m6_10 pu M ih0 ih1 (.ofNat z) x g (.ofNat a) (.ofNat b) (.ofNat (prodN a b)) false 3 3 4 s8 3 3 4 n c (q.map I) =
 ih1 (.ofNat z) x (g1 z a b g) (.ofNat a) (.ofNat (b + 1)) 3 3 4 s8 3 3 4 n c (q.map I):=by
 unfold m6_10
 rw [bb_false,closedS,bb_true,toN_mk,oo_some,toN_mk,oo_some,toN_mk,oo_some,wrapS b (by omega)]
 unfold g1 zeroB oneB
 cases g with
 | false=>rfl
 | true =>
  show bb (ieq (aand .u8 (shrI .u8 (.ofNat z) a) (1:Int)) (0:Int)) _ _ = _
  cases ieq (aand .u8 (shrI .u8 (.ofNat z) a) (1:Int)) (0:Int) with
  | true=>rfl
  | false =>
   show bb (ieq (aand .u8 (shrI .u8 (.ofNat z) b) (1:Int)) (0:Int)) _ _ = _
   cases ieq (aand .u8 (shrI .u8 (.ofNat z) b) (1:Int)) (0:Int) with
   | true=>rfl
   | false=>rfl
end
section
variable (k:Nat) (M:Nat) (ih0:Ih0) (ih1:Ih1)
theorem step9 {z a b : Nat} {x : List Int} (f : Nat) (g : Bool) {q : List Int} {n c : Nat} (ha : a < 8) (hb : b < 8) (hx : Right 3 3 4 x) :
 m6_9 (puN (k + 8)) M ih0 ih1 (.ofNat z) (sl f x) g (.ofNat a) (.ofNat b) (.ofNat (prodN a b)) (sl 0 (t3 a x)) false 3 3 4 s8 3 3 4 n c (q.map I) =
 ih1 (.ofNat z) (sl f x) (g1 z a b g) (.ofNat a) (.ofNat (b + 1)) 3 3 4 s8 3 3 4 n c (q.map I):=by
 have e1:=pu_turn k 0 0 (x:=t3 a x) (.inr (.inr (.inr rfl))) all3 (mem8 hb) (hx.pick ok3 (mem8 ha))
 have e2:=pu_turn k f 0 (x:=x) (.inr (.inr (.inr rfl))) all3 (mem8 (prod_lt8 ha hb)) hx
 have e3:puN (k + 7 + 1) 12 [S 0 (t3 b (t3 a x)),S 0 (t3 (prodN a b) x)] = some (.bool true):=by
  rw [pu_same _ _ _ (by unfold t3;rw [pick_len,(ok3.row b (mem8 hb)).2.1];omega),t3_t3 ha hb];simp
 unfold m6_9
 rw [bb_false,closedS,bb_true]
 show oo (puN (k + 8) 11 [pressV 3 3 4 0 [0,1,2,3,4,5,6,7],S 0 (t3 a x),I (.ofNat b)]) none _ = _
 rw [e1,oo_some]
 show oo (puN (k + 8) 11 [pressV 3 3 4 0 [0,1,2,3,4,5,6,7],S f x,I (.ofNat (prodN a b))]) none _ = _
 rw [e2,oo_some]
 show oo (puN (k + 7 + 1) 12 [S 0 (t3 b (t3 a x)),S 0 (t3 (prodN a b) x)]) none (fun v2488=>(oo (vBool v2488) none fun b2490=>(m6_10 (puN (k + 8)) M ih0 ih1 (.ofNat z) (sl f x) g (.ofNat a) (.ofNat b) (.ofNat (prodN a b)) (nt b2490) 3 3 4 s8 3 3 4 n c (q.map I)))) = _
 rw [e3,oo_some]
 show m6_10 (puN (k + 8)) M ih0 ih1 (.ofNat z) (sl f x) g (.ofNat a) (.ofNat b) (.ofNat (prodN a b)) false 3 3 4 s8 3 3 4 n c (q.map I) = _
 exact step10 (puN (k + 8)) M ih0 ih1 (t:=0) (sl f x) g hb
theorem step8 {z a b : Nat} {x : List Int} (f : Nat) (g : Bool) {q : List Int} {n c : Nat} (ha : a < 8) (hb : b < 8) (hx : Right 3 3 4 x) :
 m6_8 (puN (k + 8)) M ih0 ih1 (.ofNat z) (sl f x) g (.ofNat a) (.ofNat b) (.ofNat (prodN a b)) false 3 3 4 s8 3 3 4 n c (q.map I) =
 ih1 (.ofNat z) (sl f x) (g1 z a b g) (.ofNat a) (.ofNat (b + 1)) 3 3 4 s8 3 3 4 n c (q.map I):=by
 have ht:=prod_lt8 ha hb
 have e1:∀ t,t < 8→puN (k + 8) 10 [S 0 nineI,I 3,I 3,I (.ofNat t)] = some (S 0 (t3 t nineI)):=fun t ht=>mapL_mem (f:=fun p:Nat×Nat=>puN (k + 4 + 4) 10 [S 0 nineI,I 3,I 3,I (.ofNat p.1)]) (g:=fun p=>some (S 0 (t3 p.1 nineI))) (nine_runs (k + 4)) (t,b) (p64_mem ht hb)
 have e2:puN (k + 8) 10 [S 0 (t3 a nineI),I 3,I 3,I (.ofNat b)] = some (S 0 (t3 b (t3 a nineI))):=mapL_mem (f:=fun p:Nat×Nat=>puN (k + 4 + 4) 10 [S 0 (t3 p.1 nineI),I 3,I 3,I (.ofNat p.2)]) (g:=fun p=>some (S 0 (t3 p.2 (t3 p.1 nineI)))) (nine2_runs (k + 4)) (a,b) (p64_mem ha hb)
 have e3:puN (k + 7 + 1) 12 [S 0 (t3 b (t3 a nineI)),S 0 (t3 (prodN a b) nineI)] = some (.bool true):=by
  rw [pu_same _ _ _ (by unfold t3;rw [pick_len,(ok3.row b (mem8 hb)).2.1];omega),t3_t3 ha hb];simp
 have e4:=pu_turn k f 0 (x:=x) (.inr (.inr (.inr rfl))) all3 (mem8 ha) hx
 unfold m6_8
 rw [bb_false,closedS,bb_true,list9 (k + 7),oo_some]
 show oo (puN (k + 8) 10 [S 0 nineI,I 3,I 3,I (.ofNat a)]) none _ = _
 rw [e1 a ha,oo_some]
 show oo (puN (k + 8) 10 [S 0 (t3 a nineI),I 3,I 3,I (.ofNat b)]) none _ = _
 rw [e2,oo_some]
 show oo (puN (k + 8) 10 [S 0 nineI,I 3,I 3,I (.ofNat (prodN a b))]) none _ = _
 rw [e1 _ ht,oo_some]
 show oo (puN (k + 7 + 1) 12 [S 0 (t3 b (t3 a nineI)),S 0 (t3 (prodN a b) nineI)]) none _ = _
 rw [e3,oo_some]
 show oo (puN (k + 8) 11 [pressV 3 3 4 0 [0,1,2,3,4,5,6,7],S f x,I (.ofNat a)]) none _ = _
 rw [e4,oo_some]
 show m6_9 (puN (k + 8)) M ih0 ih1 (.ofNat z) (sl f x) g (.ofNat a) (.ofNat b) (.ofNat (prodN a b)) (sl 0 (t3 a x)) (nt (ieq (Int.ofNat (t3 a x).length) (9:Int))) 3 3 4 s8 3 3 4 n c (q.map I) = _
 rw [show (t3 a x).length = 9 from by unfold t3;rw [pick_len,(ok3.row a (mem8 ha)).2.1]]
 exact step9 k M ih0 ih1 f g ha hb hx
theorem step7 {z a b : Nat} {x : List Int} (f : Nat) (g : Bool) {q : List Int} {n c : Nat} (ha : a < 8) (hb : b < 8) (hx : Right 3 3 4 x) :
 b6_7 (puN (k + 8)) M ih0 ih1 (.ofNat z) (sl f x) g (.ofNat a) (.ofNat b) 3 3 4 s8 3 3 4 n c (q.map I) =
 ih1 (.ofNat z) (sl f x) (g1 z a b g) (.ofNat a) (.ofNat (b + 1)) 3 3 4 s8 3 3 4 n c (q.map I):=by
 have ht:=prod_lt8 ha hb
 have e1:puN (k + 8) 24 [I (.ofNat a),I (.ofNat b)] = some (.tuple ⟨[I (.ofNat (prodN a b)),I 0]⟩):=mapL_mem (f:=fun p:Nat×Nat=>puN (k + 4 + 4) 24 [I (.ofNat p.1),I (.ofNat p.2)]) (g:=fun p=>some (.tuple ⟨[I (.ofNat (prodN p.1 p.2)),I 0]⟩)) (prod_runs (k + 4)) (a,b) (p64_mem ha hb)
 unfold b6_7
 rw [closedS,bb_true,show ilt (.ofNat b) (8:Int) = ilt (.ofNat b) (.ofNat 8) from rfl,ilt_nat,decide_eq_true hb,bb_true,e1,oo_some]
 show bb (nt (ieq (0:Int) (0:Int))) (m6_8 (puN (k + 8)) M ih0 ih1 (.ofNat z) (sl f x) g (.ofNat a) (.ofNat b) (.ofNat (prodN a b)) true 3 3 4 s8 3 3 4 n c (q.map I)) (bb (ilt (.ofNat (prodN a b)) (.ofNat 0)) (m6_8 (puN (k + 8)) M ih0 ih1 (.ofNat z) (sl f x) g (.ofNat a) (.ofNat b) (.ofNat (prodN a b)) true 3 3 4 s8 3 3 4 n c (q.map I)) (m6_8 (puN (k + 8)) M ih0 ih1 (.ofNat z) (sl f x) g (.ofNat a) (.ofNat b) (.ofNat (prodN a b)) (ilt (.ofNat 7) (.ofNat (prodN a b))) 3 3 4 s8 3 3 4 n c (q.map I))) = _
 rw [show nt (ieq (0:Int) (0:Int)) = false from rfl,bb_false,ilt_nat,decide_eq_false (by omega),bb_false,ilt_nat,decide_eq_false (by omega)]
 exact step8 k M ih0 ih1 f g ha hb hx
end
theorem loop7 (k M : Nat) (ih0 : Ih0) {z a : Nat} {x : List Int} (f : Nat) {q : List Int} {n c : Nat} (ha : a < 8) (hx : Right 3 3 4 x) : ∀ (d b w : Nat) (g : Bool), b + d = 8 → d < w →
 l6_7 (puN (k + 8)) M ih0 w (.ofNat z) (sl f x) g (.ofNat a) (.ofNat b) 3 3 4 s8 3 3 4 n c (q.map I) = m6_5 (puN (k + 8)) M ih0 (.ofNat z) (sl f x) (foldB z a d b g) (.ofNat a) 3 3 4 s8 3 3 4 n c (q.map I)
 | _,_,0,_,_,h=>by omega
 | 0, b, w + 1, g, hd, _ => by
  show b6_7 (puN (k + 8)) M ih0 (l6_7 (puN (k + 8)) M ih0 w) (.ofNat z) (sl f x) g (.ofNat a) (.ofNat b) 3 3 4 s8 3 3 4 n c (q.map I) = _
  unfold b6_7
  rw [closedS,bb_true,show ilt (.ofNat b) (8:Int) = ilt (.ofNat b) (.ofNat 8) from rfl,ilt_nat,decide_eq_false (by omega),bb_false]
  rfl
 | d + 1, b, w + 1, g, hd, hw => by
  show b6_7 (puN (k + 8)) M ih0 (l6_7 (puN (k + 8)) M ih0 w) (.ofNat z) (sl f x) g (.ofNat a) (.ofNat b) 3 3 4 s8 3 3 4 n c (q.map I) = _
  rw [step7 k M ih0 (l6_7 (puN (k + 8)) M ih0 w) f g ha (by omega) hx]
  exact loop7 k M ih0 f ha hx d (b + 1) w (g1 z a b g) (by omega) (by omega)
theorem loop4 (k M : Nat) (hM : 9 ≤ M) {z : Nat} {x : List Int} (f : Nat) (hx : Right 3 3 4 x) : ∀ (d a w c : Nat) (g : Bool) (q : List Int), a + d = 8 → d < w → q.length ≤ a → c / 2 = q.length → c % 2 = 0 →
 ∃ c',l6_4 (puN (k + 8)) M w (.ofNat z) (sl f x) g (.ofNat a) 3 3 4 s8 3 3 4 q.length c (q.map I) = m6_1 (puN (k + 8)) M (foldA z d a g) 3 3 4 (ownA z d a q).length c' ((ownA z d a q).map I)
 | _,_,0,_,_,_,_,h,_,_,_=>by omega
 | 0, a, w + 1, c, g, q, hd, _, _, _, _ => by
  refine ⟨c,?_⟩
  show b6_4 (puN (k + 8)) M (l6_4 (puN (k + 8)) M w) (.ofNat z) (sl f x) g (.ofNat a) 3 3 4 s8 3 3 4 q.length c (q.map I) = _
  unfold b6_4
  rw [closedS,bb_true,show ilt (.ofNat a) (8:Int) = ilt (.ofNat a) (.ofNat 8) from rfl,ilt_nat,decide_eq_false (by omega),bb_false]
  rfl
 | d + 1, a, w + 1, c, g, q, hd, hw, hq, hc, hc2 => by
  have fin:∀ (q':List Int) (c':Nat),m6_6 (puN (k + 8)) M (l6_4 (puN (k + 8)) M w) (.ofNat z) (sl f x) g (.ofNat a) 3 3 4 s8 3 3 4 q'.length c' (q'.map I) = l6_4 (puN (k + 8)) M w (.ofNat z) (sl f x) (foldB z a 8 0 g) (.ofNat (a + 1)) 3 3 4 s8 3 3 4 q'.length c' (q'.map I):=fun q' c'=>by
   unfold m6_6
   rw [closedS,bb_true]
   show l6_7 (puN (k + 8)) M (l6_4 (puN (k + 8)) M w) M (.ofNat z) (sl f x) g (.ofNat a) (.ofNat 0) 3 3 4 s8 3 3 4 q'.length c' (q'.map I) = _
   rw [loop7 k M (l6_4 (puN (k + 8)) M w) f (by omega) hx 8 0 M g rfl (by omega)]
   unfold m6_5
   rw [closedS,bb_true,wrapS a (by omega)]
  show ∃ c',b6_4 (puN (k + 8)) M (l6_4 (puN (k + 8)) M w) (.ofNat z) (sl f x) g (.ofNat a) 3 3 4 s8 3 3 4 q.length c (q.map I) = m6_1 (puN (k + 8)) M (foldA z d (a + 1) (foldB z a 8 0 g)) 3 3 4 (ownA z d (a + 1) (bb (oneB z a) (appL q [Int.ofNat a]) q)).length c' ((ownA z d (a + 1) (bb (oneB z a) (appL q [Int.ofNat a]) q)).map I)
  unfold b6_4
  rw [closedS,bb_true,show ilt (.ofNat a) (8:Int) = ilt (.ofNat a) (.ofNat 8) from rfl,ilt_nat,decide_eq_true (by omega),bb_true,toN_mk,oo_some]
  show ∃ c',bb (oneB z a) _ _ = _
  cases oneB z a with
  | true =>
   rw [bb_true,bb_true,growS (by omega) hc hc2,bb_true,snocS,closedS,bb_true,appL_eq]
   obtain ⟨c',h⟩:=loop4 k M hM f hx d (a + 1) w (2 * (q.length + 1) + bb false 1 0) (foldB z a 8 0 g) (q ++ [Int.ofNat a]) (by omega) (by omega) (by simp;omega) (by show (2 * (q.length + 1) + 0) / 2 = _;rw [List.length_append];simp) (by show (2 * (q.length + 1) + 0) % 2 = 0;omega)
   refine ⟨c',?_⟩
   have hf:=fin (q ++ [Int.ofNat a]) (2 * (q.length + 1) + bb false 1 0)
   rw [show (q ++ [Int.ofNat a]).length = q.length + 1 by simp] at hf h
   rw [hf];exact h
  | false =>
   rw [bb_false,bb_false]
   obtain ⟨c',h⟩:=loop4 k M hM f hx d (a + 1) w c (foldB z a 8 0 g) q (by omega) (by omega) (by omega) hc hc2
   refine ⟨c',?_⟩
   rw [fin q c];exact h
end Go.BkQ
set_option maxRecDepth 100000
set_option maxHeartbeats 4000000
namespace Go.BkQ
open Go Go.Sp Go.BkPM
noncomputable def zs256:List Nat:=[0,1,2,3,4,5,6,7,8,9,10,11,12,13,14,15,16,17,18,19,20,21,22,23,24,25,26,27,28,29,30,31,32,33,34,35,36,37,38,39,40,41,42,43,44,45,46,47,48,49,50,51,52,53,54,55,56,57,58,59,60,61,62,63,64,65,66,67,68,69,70,71,72,73,74,75,76,77,78,79,80,81,82,83,84,85,86,87,88,89,90,91,92,93,94,95,96,97,98,99,100,101,102,103,104,105,106,107,108,109,110,111,112,113,114,115,116,117,118,119,120,121,122,123,124,125,126,127,128,129,130,131,132,133,134,135,136,137,138,139,140,141,142,143,144,145,146,147,148,149,150,151,152,153,154,155,156,157,158,159,160,161,162,163,164,165,166,167,168,169,170,171,172,173,174,175,176,177,178,179,180,181,182,183,184,185,186,187,188,189,190,191,192,193,194,195,196,197,198,199,200,201,202,203,204,205,206,207,208,209,210,211,212,213,214,215,216,217,218,219,220,221,222,223,224,225,226,227,228,229,230,231,232,233,234,235,236,237,238,239,240,241,242,243,244,245,246,247,248,249,250,251,252,253,254,255]
noncomputable def ownL (z:Nat):List Value:=mapL (fun t=>(.int .i64 t)) (ownA z 8 0 [])
theorem check_runs (n M c:Nat):mapL (fun z=>m6_1 (puN (n + 8)) M (foldA z 8 0 (g0 z)) 3 3 4 (len (ownL z)) c (ownL z)) zs256 = mapL (fun _=>some (.bool true)) zs256:=by kernel_rfl
theorem zs_mem {z:Nat} (h:z < 256):z ∈ zs256:=by
 have h1:zs256 = List.range 256:=by unfold zs256;decide
 rw [h1];exact List.mem_range.2 h
theorem row9 (pu:PureF) (x12 x14 x16 x18 x20 x22 x24 x26 x28 x30:Int):m6_ pu L x12 x14 x16 x18 x20 x22 x24 x26 x28 x30 = m6_0 pu L x30 9 18 [(.int .i64 (Int.tmod (wrapF .i64 x12) (4:Int))),(.int .i64 (Int.tmod (wrapF .i64 x14) (4:Int))),(.int .i64 (Int.tmod (wrapF .i64 x16) (4:Int))),(.int .i64 (Int.tmod (wrapF .i64 x18) (4:Int))),(.int .i64 (Int.tmod (wrapF .i64 x20) (4:Int))),(.int .i64 (Int.tmod (wrapF .i64 x22) (4:Int))),(.int .i64 (Int.tmod (wrapF .i64 x24) (4:Int))),(.int .i64 (Int.tmod (wrapF .i64 x26) (4:Int))),(.int .i64 (Int.tmod (wrapF .i64 x28) (4:Int)))]:=by kernel_rfl
theorem p6 (k:Nat) (args:List Value):puN (k + 1) 6 args = m6 (puN k) L args:=by kernel_rfl
theorem law6 (k:Nat) {x:List Int} {z:Nat} (hz:z < 256) (hx:Right 3 3 4 x):m6_0 (puN (k + 8)) L (.ofNat z) 9 18 (x.map I) = some (.bool true):=by
 have hl:x.length = 9:=hx.1
 unfold m6_0
 rw [list8 (k + 7),oo_some]
 show bb (allL closed1 (x.map I)) (bb (an (Nat.ble (0 + 9 * 1) (len (x.map I))) (allL closed1 (takeL (9 * 1) (dropL 0 (x.map I))))) (l6_4 (puN (k + 8)) L L (.ofNat z) (Sl.mk 9 0 (takeL (9 * 1) (dropL 0 (x.map I)))) (g0 z) (.ofNat 0) 3 3 4 s8 3 3 4 ([]:List Int).length 0 (([]:List Int).map I)) none) none = _
 rw [closedS,bb_true,show (9:Nat) = x.length from hl.symm]
 have h9:takeL (x.length * 1) (dropL 0 (x.map I)) = x.map I:=by rw [takeL_eq,dropL_eq,List.drop_zero,Nat.mul_one];exact List.take_of_length_le (by simp)
 rw [h9,closedS,show Nat.ble (0 + x.length * 1) (len (x.map I)) = true from by rw [len_eq];exact Nat.ble_eq_true_of_le (by simp),show an true true = true from rfl,bb_true]
 obtain ⟨c',h⟩:=loop4 k L (by show 9≤1000000;omega) 0 hx 8 0 L 0 (z:=z) (g0 z) [] rfl (by show 8 < 1000000;omega) (by simp) rfl rfl
 rw [show (Sl.mk x.length 0 (x.map I)) = sl 0 x from rfl,h]
 have hc:=mapL_mem (f:=fun z=>m6_1 (puN (k + 8)) L (foldA z 8 0 (g0 z)) 3 3 4 (len (ownL z)) c' (ownL z)) (g:=fun _=>some (.bool true)) (check_runs k L c') z (zs_mem hz)
 have ho:ownL z = (ownA z 8 0 []).map I:=mapL_eq _ _
 rw [←hc]
 show _ = m6_1 (puN (k + 8)) L (foldA z 8 0 (g0 z)) 3 3 4 (len (ownL z)) c' (ownL z)
 rw [ho,len_eq,List.length_map]
theorem mod4 {a:Nat} (h:a < 256):0≤Int.tmod (wrapF .i64 (Int.ofNat a)) (4:Int)∧Int.tmod (wrapF .i64 (Int.ofNat a)) (4:Int) < (4:Int):=by
 rw [show wrapF .i64 (Int.ofNat a) = Int.ofNat a from wrapI _ (by show (-9223372036854775808:Int)≤(a:Int);omega) (by show (a:Int)≤9223372036854775807;omega)]
 show 0≤Int.tmod (Int.ofNat a) (Int.ofNat 4)∧Int.tmod (Int.ofNat a) (Int.ofNat 4) < 4
 rw [show Int.tmod (Int.ofNat a) (Int.ofNat 4) = Int.ofNat (a % 4) from rfl]
 exact ⟨Int.natCast_nonneg _,by show ((a % 4:Nat):Int) < 4;omega⟩
theorem openF (F:Int→Int→Int→Int→Int→Int→Int→Int→Int→Int→Option Value) {a0 a1 a2 a3 a4 a5 a6 a7 a8 z:Nat}:(ll ([.agg ⟨[.int .u8 (.ofNat a0),.int .u8 (.ofNat a1),.int .u8 (.ofNat a2),.int .u8 (.ofNat a3),.int .u8 (.ofNat a4),.int .u8 (.ofNat a5),.int .u8 (.ofNat a6),.int .u8 (.ofNat a7),.int .u8 (.ofNat a8)]⟩,.int .u8 (.ofNat z)]:List Value) none fun a0 args=>(ll args none fun a1 args=>(ll args (oo (vAgg a0) none fun l1=>(ll l1 none fun v3 l1=>(ll l1 none fun v4 l1=>(ll l1 none fun v5 l1=>(ll l1 none fun v6 l1=>(ll l1 none fun v7 l1=>(ll l1 none fun v8 l1=>(ll l1 none fun v9 l1=>(ll l1 none fun v10 l1=>(ll l1 none fun v11 l1=>(ll l1 (oo (toI .u8 v3) none fun x12=>(oo (toI .u8 v4) none fun x14=>(oo (toI .u8 v5) none fun x16=>(oo (toI .u8 v6) none fun x18=>(oo (toI .u8 v7) none fun x20=>(oo (toI .u8 v8) none fun x22=>(oo (toI .u8 v9) none fun x24=>(oo (toI .u8 v10) none fun x26=>(oo (toI .u8 v11) none fun x28=>(oo (toI .u8 a1) none fun x30=>(F x12 x14 x16 x18 x20 x22 x24 x26 x28 x30))))))))))) fun _ _=>none))))))))))) fun _ _=>none))) = F (.ofNat a0) (.ofNat a1) (.ofNat a2) (.ofNat a3) (.ofNat a4) (.ofNat a5) (.ofNat a6) (.ofNat a7) (.ofNat a8) (.ofNat z):=by kernel_rfl
theorem open6 (pu:PureF) {a0 a1 a2 a3 a4 a5 a6 a7 a8 z:Nat}:m6 pu L [.agg ⟨[.int .u8 (.ofNat a0),.int .u8 (.ofNat a1),.int .u8 (.ofNat a2),.int .u8 (.ofNat a3),.int .u8 (.ofNat a4),.int .u8 (.ofNat a5),.int .u8 (.ofNat a6),.int .u8 (.ofNat a7),.int .u8 (.ofNat a8)]⟩,.int .u8 (.ofNat z)] = m6_ pu L (.ofNat a0) (.ofNat a1) (.ofNat a2) (.ofNat a3) (.ofNat a4) (.ofNat a5) (.ofNat a6) (.ofNat a7) (.ofNat a8) (.ofNat z):=by
 unfold m6
 exact openF (m6_ pu L)
theorem right9 {a0 a1 a2 a3 a4 a5 a6 a7 a8:Nat} (h0:a0 < 256) (h1:a1 < 256) (h2:a2 < 256) (h3:a3 < 256) (h4:a4 < 256) (h5:a5 < 256) (h6:a6 < 256) (h7:a7 < 256) (h8:a8 < 256):Right 3 3 4 [Int.tmod (wrapF .i64 (.ofNat a0)) (4:Int),Int.tmod (wrapF .i64 (.ofNat a1)) (4:Int),Int.tmod (wrapF .i64 (.ofNat a2)) (4:Int),Int.tmod (wrapF .i64 (.ofNat a3)) (4:Int),Int.tmod (wrapF .i64 (.ofNat a4)) (4:Int),Int.tmod (wrapF .i64 (.ofNat a5)) (4:Int),Int.tmod (wrapF .i64 (.ofNat a6)) (4:Int),Int.tmod (wrapF .i64 (.ofNat a7)) (4:Int),Int.tmod (wrapF .i64 (.ofNat a8)) (4:Int)]:=by
 refine ⟨rfl,fun y hy=>?_⟩
 simp only [List.mem_cons,List.not_mem_nil,or_false] at hy
 rcases hy with rfl | rfl | rfl | rfl | rfl | rfl | rfl | rfl | rfl
 ·exact mod4 h0
 ·exact mod4 h1
 ·exact mod4 h2
 ·exact mod4 h3
 ·exact mod4 h4
 ·exact mod4 h5
 ·exact mod4 h6
 ·exact mod4 h7
 ·exact mod4 h8
theorem law (k : Nat) {a0 a1 a2 a3 a4 a5 a6 a7 a8 z : Nat} (hz : z < 256) (h0 : a0 < 256) (h1 : a1 < 256) (h2 : a2 < 256) (h3 : a3 < 256) (h4 : a4 < 256) (h5 : a5 < 256) (h6 : a6 < 256) (h7 : a7 < 256) (h8 : a8 < 256) :
 puN (k + 8 + 1) 6 [.agg ⟨[.int .u8 (.ofNat a0),.int .u8 (.ofNat a1),.int .u8 (.ofNat a2),.int .u8 (.ofNat a3),.int .u8 (.ofNat a4),.int .u8 (.ofNat a5),.int .u8 (.ofNat a6),.int .u8 (.ofNat a7),.int .u8 (.ofNat a8)]⟩,.int .u8 (.ofNat z)] = some (.bool true):=by
 have h:=law6 k hz (right9 h0 h1 h2 h3 h4 h5 h6 h7 h8)
 rw [p6,open6,row9]
 exact h
end Go.BkQ
